import Derived.Test.YtooomcigmleneaaGreatT10W48
set_option linter.all false
set_option maxHeartbeats 4000000
namespace Go.Proofs.T10
open Tryz Go Go.Kx Go.Proofs.S10
set_option maxRecDepth 20000
variable{ct:List Value}{t:TrackT}{v:Value}
theorem PA(m:Mem)(ht:Enc.rd m ct t)(hq:O1 t.Stages):Mut prog 60 #[.agg ct.toArray] m [] (fun m' Es u=>∃vs Y,Es=[mV 28 vs Y,row u 67 1 vs.length vs]∧vs.length=(Ba t.Stages).length∧Y.length=(Ba t.Stages).length∧RdM m' Y (Ba t.Stages)):=by
 obtain⟨E,rfl,f⟩:=ht
 refine have A:=f.le;G3 func60 O ntmps60 fun v=>q' 2 O<|o' O O fun B=>U 2 O<|fz (x:=t) 0 O O ⟨_,rfl,f⟩ fun C q g=>E2<|q' 2 O<|g' g O fun D k=>?_
 obtain⟨p,rfl,a⟩:=k
 refine have r:=a.le;WL.x (V:=Value.agg [p].toArray) (X.build zeroValue255 runUnderlying255 (PJ _ underlying255) rfl rfl) (by decide) ?_
 refine WL.y (S3 runUnderlying255 rfl) ?_
 refine C5 (H3 call119 rfl (NA _ (A1c ⟨_,rfl,a⟩ hq) (A3N hq) hq.1.1)) (by decide) (fun w Es14 z l n=>?_)
 obtain⟨s,Y18,rfl,b,c,d⟩:=n
 refine U 4 O ?_
 refine A0 rfl rfl (fun w' o=>B3 (o.weaken (.cons_cons _ (.cons_cons _ .slnil))) ?_)
 exact⟨_,_,rfl,by rw[BP];exact b,by rw[BP];exact c,d⟩
theorem MK(m:Mem)(ht:Enc.rd m ct t)(hq:O1 t.Stages):Pure prog 60 #[.agg ct.toArray] m (fun m' v=>Sl m' v (Ba t.Stages)):=A6I (PA m ht hq) (A4J hq)
theorem A4h(m:Mem){xs:List Value}(h1:∀v∈xs,v.oneCell'=true)(hx:xs.length≤1000):Mut prog 301 #[v] m [row v 67 1 xs.length xs] (fun _ Es u=>u= .tuple #[]∧Es=[row v 67 1 xs.reverse.length xs.reverse]):=by
 refine G3 func301 O ntmps301 fun o=>q' 3 O<|y' (U5 (k:=0) runUnderlying82 rfl rfl)<|U 6 O ?_
 refine S5 (fun(i:Nat) (zj:Int)=>xs.length-i) (fun i zj=>[row (v) 67 1 (Ck xs i).length (Ck xs i)]) (fun i zj=>[(0,v),(2,J i),(3,J zj)]) (fun i zj=>i+i≤xs.length+1∧(zj=(xs.length:Int)-1-i)∧(i+i≤xs.length)) 0 (↑xs.length-1) ?_ ?_
 ·exact⟨by omega,by omega,by omega⟩
 rintro i zj ⟨_,hzj,hi⟩
 refine have n:=Ea xs i;have a:=B1f h1 hi;q' 5 O<|c' (X.lss O O) (fun p=>?_) fun p=>?_
 ·refine U 7 O ?_
  obtain⟨b,l⟩:∃qq__:Nat,(zj:Int)=(qq__:Int):=⟨(zj:Int).toNat,(by omega)⟩
  rw[l]
  have c:gt (Ck xs i) b∈Ck xs i:=Ta (S9 (by omega))
  have d:gt (Ck xs i) i∈Ck xs i:=Ta (S9 (by omega))
  refine B9 16 [13,15] [13,15]<|U' 6 O<|Z O O (K0 (k:=0) runUnderlying82 sizeOf67 rfl rfl rfl (by first|omega|(simp;omega)|simp) (by first|omega|(simp;omega)|simp))<|Z O O (Az (k:=0) (i:=b) isAgg67 rfl rfl (by first|omega|(simp only[I'];omega)))<|U' 2 O<|Z O O (K0 (k:=0) runUnderlying82 sizeOf67 rfl rfl rfl (by first|omega|(simp;omega)|simp) (by first|omega|(simp;omega)|simp))<|Z O O (Az (k:=0) (i:=i) isAgg67 rfl rfl (by first|omega|(simp only[I'];omega)))<|Z O O (K0 (k:=0) runUnderlying82 sizeOf67 rfl rfl rfl (by first|omega|(simp;omega)|simp) (by first|omega|(simp;omega)|simp))<|B4 O O O O (Y9 (k:=0) (i:=i) sizeOf67 rfl rfl (a _ c) rfl (by first|omega|(simp only[I'];omega)))<|Z O O (K0 (k:=0) runUnderlying82 sizeOf67 rfl rfl rfl (by first|omega|(simp;omega)|simp) (by first|omega|(simp;omega)|simp))<|B4 O O O O (Y9 (k:=0) (i:=b) sizeOf67 rfl rfl (a _ d) rfl (by first|omega|(simp only[I'];omega)))<|V' 11 O ?_
  have g:(((Ck xs i).set i (gt (Ck xs i) b)).set b (gt (Ck xs i) i))=(Ck xs (i+1)):=(by rw[Ck,show xs.length-1-i=b by omega])
  rw[g]
  exact K2 (i+1) (↑b-1)<|⟨by omega,by omega,by omega⟩
 refine U 7 O ?_
 refine D0 rfl (fun w' f=>B3 (f.weaken (.cons_cons _ .slnil)) ?_)
 refine⟨rfl,?_⟩
 rw[B2c xs hi (by omega)]
theorem A1e(m:Mem)(ht:Enc.rd m ct t)(hq:O1 t.Stages):Pure prog 254 #[.agg ct.toArray] m (fun m' v=>Sl m' v (Ht t.Stages)):=by
 obtain⟨R,rfl,l⟩:=ht
 refine have J:=l.le;F6 func254 O ntmps254 fun C=>q' 2 O<|o' O O fun M=>U 2 O<|fz (x:=t) 0 O O ⟨_,rfl,l⟩ fun N z o=>E2<|q' 2 O<|g' o O fun P p=>?_
 obtain⟨u,rfl,b⟩:=p
 refine have B:=b.le;WL.x (V:=Value.agg [u].toArray) (X.build zeroValue433 runUnderlying433 (A4T _ underlying433) rfl rfl) (by decide) ?_
 refine WL.y (S3 runUnderlying433 rfl) ?_
 refine C5 (H3 call119 rfl (NA _ (A4g ⟨_,rfl,b⟩ hq) (A4k hq) hq.1.1)) (by decide) (fun D Es14 E q c=>?_)
 obtain⟨n,Y18,rfl,f,w,g⟩:=c
 refine U 4 O ?_
 refine GA 0 rfl rfl (by omega) g (A6K hq) (fun F r a=>?_)
 refine have K:=hq.1.1.2;q' 2 O ?_
 refine C5 (C8 (A:=[]) call301 rfl (.refl _) (A4h _ a.ones (by omega))) (by decide) (fun G H Q d c=>?_)
 obtain⟨rfl,rfl⟩:=c
 refine have a:=a.mono d;U 3 O ?_
 refine M7 (α:=List (List Span)) (L:=Ht t.Stages) 0 rfl (by rw[←(show(n.reverse).length=(Ht t.Stages).length from(by rw[TV,KV];exact f))];rfl) (a.rev) (by rw[KV];unfold C7;omega) (fun I s k=>?_)
 exact q' 6 O<|A0 O O<|C2<|k
theorem B5r(m:Mem)(ht:Enc.rd m ct t)(hq:O1 t.Stages):Pure prog 188 #[.agg ct.toArray] m (fun m' v=>Sl m' v (FX t.Stages)):=by
 obtain⟨v1,rfl,a8⟩:=ht
 refine have e3:=a8.le;F6 func188 O ntmps188 fun d3=>q' 2 O<|o' O O fun b4=>U 2 O<|fz (x:=t) 0 O O ⟨_,rfl,a8⟩ fun m5 c2 M=>E2<|q' 1 O<|L4 (π:=sq [0,2,1,3,4,5] .done) [1,3] [] O (by kernel_rfl)<|G' M O O O fun c8 b1=>?_
 obtain⟨e5,rfl,D⟩:=b1
 refine have c3:=D.le;G' M O O O fun d4 N=>?_
 obtain⟨e6,rfl,q⟩:=N
 have c4:=q.le
 refine AY rfl rfl rfl (H3 call60 rfl (PA _ (t:=t) ⟨_,rfl,D⟩ hq)) (by decide) (fun d5 Es19 r G H=>?_)
 obtain⟨a,Y23,rfl,c0,c1,o⟩:=H
 replace q:=q.mono G
 refine W2 rfl rfl rfl (T.call call254 rfl (A1e _ (t:=t) ⟨_,rfl,q⟩ hq)) (by decide) (fun P Q I c=>?_)
 refine have o:=o.mono I;have c5:=c.le;U' 2 O<|V' 5 O<|y' (U5 (k:=1) runUnderlying82 rfl rfl)<|U 4 O ?_
 have c6:=BP t.Stages
 have c7:=KV t.Stages
 refine Iz (fun(k:Nat) (Y:List (List Value)) (mm:Mem)=>t.Stages.length-k) (fun k Y mm=>mm) (fun k Y mm=>[mV 28 a Y,row (r) 67 1 (a).length (a)]) (fun k Y mm=>[(3,r),(4,Q),(12,r),(13,J a.length),(14,J k)]) (fun k Y mm=>k≤t.Stages.length∧P.le mm∧Y.length=t.Stages.length∧RdM mm Y (Hf t.Stages k 0)) 0 Y23 P ?_ ?_
 ·exact⟨EF _,Mem.le_refl _,by omega,by rw[←A7Y];exact o⟩
 rintro k Y mm ⟨hk,a9,b0,g⟩
 refine have c:=c.mono a9;q' 2 O<|c' (X.lss O O) (fun b2=>?_) fun b2=>?_
 ·refine U 11 O<|y' (K0 (k:=1) runUnderlying82 sizeOf67 rfl rfl rfl (by first|omega|(simp;omega)|simp) (by first|omega|(simp;omega)|simp))<|y' (Az (k:=1) (i:=k) isAgg67 rfl rfl (by omega))<|U 5 O ?_
  have A:=W7 hq (k:=k) (by omega)
  have s:=Ib hq (k:=t.Stages.length-1-k) (by omega)
  rw[show t.Stages.length-1-(t.Stages.length-1-k)=k by omega]at s
  have b7:=A.2
  have b8:=s.2
  have c9:=(hq.1.2 k (by omega)).1.2
  have d0:=Sd List.length (A1j (t:=t.Stages) (k:=k) (by omega))
  have a3:RdL mm (gt Y k) (Ho t.Stages k 0):=(by have l:=g.2 k (by rw[A1I];omega);rw[A4R (by omega)]at l;exact l)
  have K:=a3.len1
  rw[JQ (EF _)]at K
  refine q' 2 O<|y' (B0J (j:=0) (k:=k) runUnderlying67 rfl rfl (by omega) (by omega))<|U 4 O ?_
  refine Iz (fun(n:Nat) (Zz:List (List Value)) (mn:Mem)=>(Q0 t.Stages k).length-n) (fun n Zz mn=>mn) (fun n Zz mn=>[mV 28 a Zz,row (r) 67 1 (a).length (a)]) (fun n Zz mn=>[(3,r),(4,Q),(5,J k),(6,gt a k),(12,r),(13,J a.length),(14,J k),(20,J (↑(gt Y k).length)),(21,J n)]) (fun n Zz mn=>n≤(Q0 t.Stages k).length∧mm.le mn∧Zz.length=t.Stages.length∧RdM mn Zz (Hf t.Stages k n)) 0 Y mm ?_ ?_
  ·exact⟨EF _,Mem.le_refl _,b0,g⟩
  rintro n Zz mn ⟨hn,w,E,p⟩
  replace c:=c.mono w
  replace g:=g.mono w
  have b:RdL mn (gt Zz k) (Ho t.Stages k n):=(by have l:=p.2 k (by rw[A1I];omega);rw[A4R (by omega)]at l;exact l)
  have a4:=b.len1
  rw[JQ hn]at a4
  have B:=fun l:n<(Q0 t.Stages k).length=>BJ (A.1 n l)
  have C:=fun l:n<(Q0 t.Stages k).length=>BJ (s.1 n (by omega))
  have u:gt (Ht t.Stages) k=FQ t.Stages (t.Stages.length-1-k):=A1j (by omega)
  refine q' 2 O<|c' (X.lss O O) (fun b3=>?_) fun b3=>?_
  ·refine U 14 O<|B9 16 [13,15] [15]<|U' 4 O<|Z O O (Ou (j:=0) (k:=k) runUnderlying67 sizeOf28 rfl rfl rfl (by omega) (by omega) (by omega) (by omega)) ?_
   have a5:Sl mn (gt (gt Zz k) n) (gt (Q0 t.Stages k) n):=(by have l:=b.slAt (i:=n) (by rw[JQ (by omega)];omega);rw[B3m]at l;exact l)
   refine Z O O (A0K (j:=0) (k:=k) (i:=n) isAgg28 rfl rfl (by omega) (by omega) (by omega))<|U' 2 O<|X' k c O O O O fun d6 R=>S' R O O O fun d7 y=>have d1:=y.le;U' 1 O<|X' n y O O O O fun d8 S=>S' S O O O fun d9 z=>?_
   have d2:=z.le
   refine AY rfl rfl rfl (H3 call209 rfl (NO _ a5 z (by have l:=B (by omega);have h2_:=C (by omega);rw[u];omega))) (by decide) (fun e0 Es48 V d H=>?_)
   obtain⟨rfl,F⟩:=H
   refine have g:=g.mono d;have p:=p.mono d;have b:=b.mono d;Z O O (Ou (j:=1) (k:=k) runUnderlying67 sizeOf28 rfl rfl rfl (by omega) (by omega) (by omega) (by omega))<|B4 O O O O (A6g (j:=1) (k:=k) (i:=n) sizeOf28 rfl rfl (D7 F) F rfl (by omega) (by omega) (by omega))<|V' 7 O ?_
   refine E4 0 rfl rfl (by have l:=B (by omega);have h2_:=C (by omega);have b9:=EC _ (gt (Q0 t.Stages k) n) (gt (gt (Ht t.Stages) k) n) rfl;rw[u]at b9 ⊢; unfold C7;omega) (fun W f a0=>?_)
   replace g:=g.mono f
   replace p:=p.mono f
   replace b:=b.mono f
   have a6:RdM W (Zz.set k ((gt Zz k).set n V)) (Hf t.Stages k (n+1)):=(by have l:=p.set (k:=k) (b.setS (i:=n) (by rw[JQ (by omega)];omega) (show Sl _ _ (A2R t.Stages k n)from(by have h2_:=a0;rw[u]at h2_;exact h2_)));rw[B1b (by omega),B1E]at l;exact l)
   exact O7 (n+1) (Zz.set k ((gt Zz k).set n V)) W<|⟨by omega,(Mem.le_trans w (Mem.le_trans d f)),by rw[I'];exact E,a6⟩
  exact U 15 O<|O7 (k+1) Zz mn<|⟨by omega,(Mem.le_trans a9 w),E,by rw[←A7S,←show n=(Q0 t.Stages k).length by omega];exact p⟩
 refine U 10 O ?_
 have a7:RdM mm Y (FX t.Stages):=(by rw[←B3c,←show k=t.Stages.length by omega];exact g)
 refine GA 0 rfl rfl (by omega) a7 (A5R hq) (fun e1 b5 a1=>?_)
 have e4:=hq.1.1.2
 refine M7 (α:=List (List Span)) (L:=FX t.Stages) 0 rfl (by rw[←(show(a).length=(FX t.Stages).length from(by rw[If];omega))];rfl) a1 (by rw[If];unfold C7;omega) (fun e2 b6 a2=>?_)
 exact q' 6 O<|A0 O O<|C2<|a2
theorem B0S(m:Mem)(ht:Enc.rd m ct t)(hq:O1 t.Stages):Pure prog 187 #[.agg ct.toArray,Fc 188] m (fun m' v=>∃r,v= .tuple #[r,J 0]∧Sl m' r (FX t.Stages)):=by
 obtain⟨E,rfl,g⟩:=ht
 refine have y:=g.le;F6 func187 O ntmps187 fun q=>q' 2 O<|o' O O fun B=>U 3 O<|fz (x:=t) 0 O O ⟨_,rfl,g⟩ fun C n c=>E2<|q' 3 O<|g' c O fun D k=>?_
 obtain⟨z,rfl,a⟩:=k
 refine have o:=a.le;y' (X.call call59 rfl (Ow _ _ t ⟨_,rfl,a⟩ hq.1))<|U 15 O<|g' c O fun s d=>?_
 obtain⟨A,rfl,b⟩:=d
 have p:=b.le
 refine C0 (Ke call188 rfl rfl (B5r _ (t:=t) ⟨_,rfl,b⟩ hq)) (by decide) (fun u w l f=>?_)
 exact U 5 O<|B7 O O O<|C2<|⟨_,rfl,f⟩
theorem B5f(m:Mem)(ht:Enc.rd m ct t)(hq:O1 t.Stages):Pure prog 108 #[.agg ct.toArray] m (fun m' v=>∃r,v= .tuple #[r,J 0]∧Sl m' r (FX t.Stages)):=by
 obtain⟨B,rfl,c⟩:=ht
 refine have s:=c.le;F6 func108 O ntmps108 fun p=>q' 2 O<|o' O O fun y=>U 3 O<|fz (x:=t) 0 O O ⟨_,rfl,c⟩ fun z l d=>E2<|q' 2 O<|g' d O fun A f=>?_
 obtain⟨u,rfl,a⟩:=f
 have n:=a.le
 refine C0 (T.call call187 rfl (B0S _ (t:=t) ⟨_,rfl,a⟩ hq)) (by decide) (fun q _ g k=>?_)
 obtain⟨w,rfl,b⟩:=k
 exact have o:=b.le;U 7 O<|B7 O O O<|C2<|⟨_,rfl,b⟩
theorem PG{G:Prop}(h:G:=by first|exact B0 (W8 (by omega) hall ‹_›).symm|exact B0 (W3 (fun j hj=>hall j (by omega))).symm):G:=h
theorem B5b(m:Mem){vl:Value}{l:List (List Span)}(hl:Sl m vl l){fn:Nat}{caps:List Value}{p:Nat→Prop}[DecidablePred p](hE:Enters prog fn)(hcl:(∀i,i<l.length→∀v,Sl m v (gt l i)→Exact prog fn (#[v]++caps.toArray) m (.bool (decide (p i))))):Exact prog 210 #[vl,.func (.func fn) #[] caps.toArray] m (J (U3 p l.length)):=by
 refine have n:=hl.le;D4 func210 O ntmps210 fun d=>q' 9 O<|l' hl O<|U 4 O ?_
 refine J4 (fun(k:Nat)=>l.length-k) (fun k=>[]) (fun k=>[(0,vl),(1,.func (.func fn) #[] caps.toArray),(7,J l.length),(8,J k)]) (fun k=>k≤l.length∧(∀j,j<k→¬p j)) 0 ?_ ?_
 ·exact⟨EF _,fun j b=>absurd b (R' _)⟩
 rintro k ⟨s,hall⟩
 refine q' 2 O<|c' (X.lss O O) (fun f=>?_) fun f=>?_
 ·refine U 19 O<|x' k hl O O fun q c=>s' c O fun r a=>have o:=a.le;c' (E1 hE rfl rfl (hcl k (by omega) _ a)) (fun g=>?_) fun g=>?_
  ·exact U 15 O<|A0 O O<|A8<|PG
  exact U 11 O<|I6 (k+1)<|⟨by omega,fun j b=>by rcases Sc.1 b with h|h;exact hall j h;subst h;assumption⟩
 exact U 15 O<|A0 O O<|A8<|PG
theorem B1F(m:Mem){vl:Value}{l:List (List Span)}(hl:Sl m vl l){fn:Nat}{caps:List Value}{p:Nat→Prop}[DecidablePred p](hE:Enters prog fn)(hcl:(∀i,i<l.length→∀v,Sl m v (gt l i)→Exact prog fn (#[v]++caps.toArray) m (.bool (decide (p i))))):Exact prog 120 #[vl,.func (.func fn) #[] caps.toArray] m (.bool (decide (¬∀i,i<l.length→¬p i))):=by
 exact have b:=hl.le;D4 func120 O ntmps120 fun a=>q' 9 O<|y' (X.call call210 rfl (B5b _ hl hE hcl))<|U 5 O<|A0 O O<|A8<|D8 (BS p l.length)
theorem B1U(m:Mem){x:List Span}(hx:Sl m v x):Exact prog 121 #[v] m (.bool (decide (0<(x.length:Int)))):=by
 refine D4 func121 O ntmps121 fun a=>q' 8 O<|l' hx O<|U 5 O<|A0 O O<|A8 ?_
 rfl
theorem A4V(m:Mem){L:List (List Span)}(hL:Sl m v L):Exact prog 61 #[v] m (.bool (decide (¬∀i,i<L.length→¬0<((gt L i).length:Int)))):=by
 refine D4 func61 O ntmps61 fun a=>q' 8 O<|y' (X.call call120 rfl (B1F (p:=fun i=>0<((gt L i).length:Int)) _ hL (caps:=[]) call121 (fun i _ v b=>B1U _ b)))<|U 4 O<|A0 O O<|A8 ?_
 rfl
theorem A0T(m:Mem)(ht:Enc.rd m ct t)(hq:O1 t.Stages):Pure prog 195 #[.agg ct.toArray] m (fun _ v=>v= .bool (decide (R6 t.Stages))):=by
 obtain⟨L,rfl,n⟩:=ht
 refine have F:=n.le;have G:=hq.1.1;have r:=BP t.Stages;F6 func195 O ntmps195 fun y=>q' 2 O<|o' O O fun I=>U 2 O<|fz (x:=t) 0 O O ⟨_,rfl,n⟩ fun J q d=>E2<|q' 1 O<|L4 (π:=sq [0,2,3,4,5,1,6,7,8,9] .done) [1] [] O (by kernel_rfl)<|G' d O O O fun K o=>?_
 obtain⟨H,rfl,c⟩:=o
 refine have s:=c.le;Z O O (A.f O)<|S' (G0 d) O O O fun z a=>have u:=a.le;Z O O (A.l O a)<|U' 1 O ?_
 refine W2 rfl rfl rfl (T.call call60 rfl (MK _ (t:=t) ⟨_,rfl,c⟩ hq)) (by decide) (fun B C p g=>?_)
 exact J0 O O (T9 (t.Stages.length-1) runUnderlying82 sizeOf67 rfl rfl g (by omega) (by omega)) (by decide) fun D k=>S' k O O O fun E b=>have w:=b.le;Z O O (X.call call61 rfl (A4V _ b))<|U' 1 O<|V' 2 O<|A0 O O<|C2<|D8 (Qc (by omega))
theorem A0M(m:Mem)(ht:Enc.rd m ct t)(hq:O1 t.Stages):Pure prog 114 #[.agg ct.toArray] m (fun _ v=>v= .tuple #[.bool (decide (R6 t.Stages)),J 0]):=by
 obtain⟨C,rfl,f⟩:=ht
 refine have u:=f.le;F6 func114 O ntmps114 fun q=>q' 2 O<|o' O O fun z=>U 3 O<|fz (x:=t) 0 O O ⟨_,rfl,f⟩ fun A n c=>E2<|q' 3 O<|g' c O fun B g=>?_
 obtain⟨w,rfl,a⟩:=g
 refine have o:=a.le;y' (X.call call59 rfl (Ow _ _ t ⟨_,rfl,a⟩ hq.1))<|U 14 O<|g' c O fun r d=>?_
 obtain⟨y,rfl,b⟩:=d
 have p:=b.le
 refine C0 (T.call call195 rfl (A0T _ (t:=t) ⟨_,rfl,b⟩ hq)) (by decide) (fun s _ k l=>?_)
 subst l
 refine U 5 O<|B7 O O O<|C2 ?_
 rfl
theorem A4w(m:Mem)(ht:Enc.rd m ct t)(hq:O1 t.Stages):Pure prog 53 #[.agg ct.toArray] m (fun _ v=>v= .bool (decide (R6 t.Stages))):=by
 obtain⟨w,rfl,b⟩:=ht
 refine have p:=b.le;F6 func53 O ntmps53 fun n=>q' 2 O<|o' O O fun r=>U 2 O<|fz (x:=t) 0 O O ⟨_,rfl,b⟩ fun s k c=>E2<|q' 2 O<|g' c O fun u d=>?_
 obtain⟨q,rfl,a⟩:=d
 have l:=a.le
 refine C0 (T.call call114 rfl (A0M _ (t:=t) ⟨_,rfl,a⟩ hq)) (by decide) (fun o _ f g=>?_)
 subst g
 refine U 14 O<|A0 O O<|C2 ?_
 rfl
theorem B1B(m:Mem)(ht:Enc.rd m ct t)(hq:O1 t.Stages):Pure prog 19 #[.agg ct.toArray] m (fun m' v=>∃r,v= .tuple #[.agg r.toArray,J (GL t.Stages)]∧Enc.rd m' r (ProofT.mk (HT t.Stages))):=by
 obtain⟨Q,rfl,n⟩:=ht
 refine have G:=n.le;have H:=hq.1.1;have w:=BP t.Stages;F6 func19 O ntmps19 fun B=>q' 2 O<|o' O O fun L=>n' zeroValue84 O fun M=>U 2 O<|fz (x:=t) 1 O O ⟨_,rfl,n⟩ fun N u f=>E2<|q' 3 O<|g' f O fun P g=>?_
 obtain⟨I,rfl,c⟩:=g
 refine have y:=c.le;y' (X.call call59 rfl (Ow _ _ t ⟨_,rfl,c⟩ hq.1))<|U 14 O<|g' f O fun C k=>?_
 obtain⟨K,rfl,d⟩:=k
 have z:=d.le
 refine C0 (T.call call60 rfl (MK _ (t:=t) ⟨_,rfl,d⟩ hq)) (by decide) (fun D o p a=>?_)
 refine U 8 O<|l' a O<|U 1 O<|Q9 (T9 ((Ba t.Stages).length-1) runUnderlying82 sizeOf67 rfl rfl a (by omega) (by omega)) (by decide) fun E l=>s' l O fun F b=>have A:=b.le;c' (X.call call61 rfl (A4V _ b)) (fun q=>?_) fun q=>?_
 ·refine U 5 O<|WL.x (V:=Value.agg [S0].toArray) (X.build zeroValue84 runUnderlying84 (A0a _ underlying84) rfl rfl) (by decide) ?_
  exact w' 0 O O O<|U 5 O<|E6 0 O O O O isAgg84 sizeOf84<|C2<|⟨_,G4 rfl (B0 (D' ((EX (by omega)).1 ‹_›)).symm),by show Enc.rd _ _ (ProofT.mk (HT t.Stages));unfold HT;rw[D' ((EX (by omega)).1 ‹_›)];exact⟨_,rfl,.nil⟩⟩
 refine U 8 O<|WL.x (V:=Value.agg [o].toArray) (X.build zeroValue84 runUnderlying84 (A0a _ underlying84) rfl (by simp only[Instr.fill,D7 a.one];rfl)) (by decide) ?_
 exact w' 0 O O O<|U 4 O<|E6 0 O O O O isAgg84 sizeOf84<|C2<|⟨_,G4 rfl (B0 (A' (fun s=>absurd ((EX (by omega)).2 s) ‹_›)).symm),by show Enc.rd _ _ (ProofT.mk (HT t.Stages));unfold HT;rw[A' (fun s=>absurd ((EX (by omega)).2 s) ‹_›)];exact⟨_,rfl,a⟩⟩
end Go.Proofs.T10
