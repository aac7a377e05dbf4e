import Derived.Test.YtooomcigmleneaaGreatT10W45
set_option linter.all false
set_option maxHeartbeats 2000000
namespace Go.Proofs.T10
open Tryz Go Go.Kx Go.Proofs.S10
set_option maxRecDepth 20000
theorem A8O{α:Type}{l:List α}(h:l.length=2):∃x y,l=[x,y]:=match l,h with| [x,y],_=>⟨x,y,rfl⟩
theorem Pa{G:Prop}(h:G:=by first|exact B0 (W8 (by omega) hall ‹_›).symm|exact B0 (W3 (fun j hj=>hall j (by omega))).symm):G:=h
theorem B3C(m:Mem){vl:Value}{l:List NodeT}(hl:Sl m vl l){fn:Nat}{caps:List Value}{p:Nat→Prop}[DecidablePred p](hE:Enters prog fn)(hcl:∀i,i<l.length→∀cs,Enc.rd m cs (gt l i)→Exact prog fn (#[.agg cs.toArray]++caps.toArray) m (.bool (decide (p i)))):Exact prog 256 #[vl,.func (.func fn) #[] caps.toArray] m (J (U3 p l.length)):=by
 refine have s:=hl.le;D4 func256 O ntmps256 fun q=>q' 9 O<|l' hl O<|U 4 O ?_
 refine J4 (fun(k:Nat)=>l.length-k) (fun k=>[]) (fun k=>[(0,vl),(1,.func (.func fn) #[] caps.toArray),(7,J l.length),(8,J k)]) (fun k=>k≤l.length∧(∀j,j<k→¬p j)) 0 ?_ ?_
 ·exact⟨EF _,fun j c=>absurd c (R' _)⟩
 rintro k ⟨v,hall⟩
 refine q' 2 O<|c' (X.lss O O) (fun r=>?_) fun r=>?_
 ·refine U 19 O<|x' k hl O O fun t d=>g' d O fun u f=>?_
  obtain⟨w,x,rfl,b,a⟩:=f
  refine have n:=b.le;have o:=a.le;c' (E1 hE rfl rfl (hcl k (by omega) _ ⟨_,_,rfl,b,a⟩)) (fun g=>?_) fun g=>?_
  ·exact U 15 O<|A0 O O<|A8<|Pa
  exact U 11 O<|I6 (k+1)<|⟨by omega,fun j c=>by rcases Sc.1 c with h|h;exact hall j h;subst h;assumption⟩
 exact U 15 O<|A0 O O<|A8<|Pa
theorem B2D(m:Mem){vl:Value}{l:List NodeT}(hl:Sl m vl l){fn:Nat}{caps:List Value}{p:Nat→Prop}[DecidablePred p](hE:Enters prog fn)(hcl:∀i,i<l.length→∀cs,Enc.rd m cs (gt l i)→Exact prog fn (#[.agg cs.toArray]++caps.toArray) m (.bool (decide (p i)))):Exact prog 204 #[vl,.func (.func fn) #[] caps.toArray] m (.bool (decide (¬∀i,i<l.length→¬p i))):=by
 exact have b:=hl.le;D4 func204 O ntmps204 fun a=>q' 9 O<|y' (X.call call256 rfl (B3C _ hl hE hcl))<|U 5 O<|A0 O O<|A8<|D8 (BS p l.length)
theorem PD{G:Prop}(h:G:=by first|exact B0 (W8 (by omega) hall ‹_›).symm|exact B0 (W3 (fun j hj=>hall j (by omega))).symm):G:=h
theorem B3j(m:Mem){vl:Value}{l:List EdgeT}(hl:Sl m vl l){fn:Nat}{caps:List Value}{p:Nat→Prop}[DecidablePred p](hE:Enters prog fn)(hcl:(∀i,i<l.length→Exact prog fn (#[.agg (Flat.enc (gt l i)).toArray]++caps.toArray) m (.bool (decide (p i))))):Exact prog 257 #[vl,.func (.func fn) #[] caps.toArray] m (J (U3 p l.length)):=by
 refine have n:=hl.le;D4 func257 O ntmps257 fun d=>q' 9 O<|l' hl O<|U 4 O ?_
 refine J4 (fun(k:Nat)=>l.length-k) (fun k=>[]) (fun k=>[(0,vl),(1,.func (.func fn) #[] caps.toArray),(7,J l.length),(8,J k)]) (fun k=>k≤l.length∧(∀j,j<k→¬p j)) 0 ?_ ?_
 ·exact⟨EF _,fun j a=>absurd a (R' _)⟩
 rintro k ⟨r,hall⟩
 refine q' 2 O<|c' (X.lss O O) (fun f=>?_) fun f=>?_
 ·refine U 19 O<|x' k hl O O fun o b=>g' b O fun q c=>?_
  obtain rfl:=c
  refine c' (E1 hE rfl rfl (hcl k (by omega))) (fun g=>?_) fun g=>?_
  ·exact U 15 O<|A0 O O<|A8<|PD
  exact U 11 O<|I6 (k+1)<|⟨by omega,fun j a=>by rcases Sc.1 a with h|h;exact hall j h;subst h;assumption⟩
 exact U 15 O<|A0 O O<|A8<|PD
theorem B2d(m:Mem){vl:Value}{l:List EdgeT}(hl:Sl m vl l){fn:Nat}{caps:List Value}{p:Nat→Prop}[DecidablePred p](hE:Enters prog fn)(hcl:(∀i,i<l.length→Exact prog fn (#[.agg (Flat.enc (gt l i)).toArray]++caps.toArray) m (.bool (decide (p i))))):Exact prog 206 #[vl,.func (.func fn) #[] caps.toArray] m (.bool (decide (¬∀i,i<l.length→¬p i))):=by
 exact have b:=hl.le;D4 func206 O ntmps206 fun a=>q' 9 O<|y' (X.call call257 rfl (B3j _ hl hE hcl))<|U 5 O<|A0 O O<|A8<|D8 (BS p l.length)
theorem FT{G:Prop}(h:G:=by first|exact D5 (by unfold Ai;omega)|exact B2 (by unfold Ai;omega)|exact D8 (by unfold Ai;omega)):G:=h
theorem A5V(m:Mem)(cs:List Value)(s:Span)(hs:Enc.rd m cs s):Exact prog 203 #[.agg cs.toArray] m (.bool (decide (Ai s))):=by
 obtain rfl:=hs
 refine D4 func203 O ntmps203 fun c=>q' 2 O<|o' O O fun g=>U 4 O<|fz (x:=s) 0 O O O fun k b a=>q' 1 O<|f' O t'<|i' (P5 a) O<|c' (X.leq O O) (fun d=>?_) fun d=>?_
 ·refine U 2 O<|f' O t'<|U 1 O<|i' (P5 a) O<|U 1 O<|f' O t'<|U 1 O<|i' (J7 a) O<|U 1 O<|c' (X.leq O O) (fun f=>?_) fun f=>?_
  ·exact U 3 O<|f' O t'<|U 1 O<|i' (J7 a) O<|U 7 O<|A0 O O<|A8<|FT
  exact U 10 O<|A0 O O<|A8<|FT
 exact U 16 O<|A0 O O<|A8<|FT
theorem B2x(m:Mem){ce:List Value}{e:EdgeT}(he:Enc.rd m ce e){pn:Addr}{nx:Int}(hpn:At m pn nx)(hok:(0≤e.To∧e.To<nx)∧Ai e.Change):Exact prog 202 #[.agg ce.toArray,.pointer (some pn)] m (.bool (decide False)):=by
 obtain rfl:=he
 refine D4 func202 O ntmps202 fun d=>q' 2 O<|o' O O fun g=>U 4 O<|fz (x:=e) 0 O O O fun k b a=>have hpn:=hpn.mono b;q' 1 O<|f' O t'<|i' (Fd a) O<|y' (OpX.f (X.lss rfl rfl) (by omega))<|U 2 O<|f' O t'<|U 1 O<|i' (Fd a) O<|U 1 O<|i' hpn O<|U 1 O<|y' (OpX.f (X.geq rfl rfl) (by omega))<|U 3 O<|f' O t'<|U 1 O<|g' (DE a) O fun l c=>?_
 obtain rfl:=c
 refine U 1 O<|y' (OpX.t (X.call call203 rfl (A5V _ _ e.Change rfl)) hok.2)<|U 7 O<|A0 O O<|A8 ?_
 rfl
theorem B0K(m:Mem){cx:List Value}{x:NodeT}(hx:Enc.rd m cx x){pb pn:Addr}{next:Nat}(hbad:Cells m pb [.func (.func 202) #[] [.pointer (some (pn))].toArray])(hpn:At m pn (next:Int))(hok:Qx next x):Exact prog 205 #[.agg cx.toArray,.pointer (some pb)] m (.bool (decide False)):=by
 obtain⟨C,D,rfl,k,l⟩:=hx
 refine have y:=k.le;have z:=l.le;D4 func205 O ntmps205 fun s=>q' 2 O<|o' O O fun A=>U 4 O<|fz (x:=x) 0 O O ⟨_,_,rfl,k,l⟩ fun B b a=>have hbad:=hbad.mono b;have hpn:=hpn.mono b;q' 1 O<|f' O t'<|s' (Fj a) O fun u c=>have o:=c.le;y' (OpX.t (X.call call65 rfl (Hh _ _ _ c)) hok.1)<|U 3 O<|f' O t'<|U 1 O<|s' (Mx a) O fun v d=>have q:=d.le;U 1 O<|l' d O<|U 1 O<|y' (OpX.f (X.gtr rfl rfl) (by have n:=hok.2.1;omega))<|U 3 O<|f' O t'<|U 1 O<|s' (Mx a) O fun w g=>have r:=g.le;U 1 O<|y' (J9 isAgg337 rfl hbad)<|U 1 O<|y' (OpX.f (X.call call206 rfl (B2d (p:=fun i=>False) _ g (caps:=[.pointer (some pn)]) call202 (fun i hi=>B2x _ (e:=gt x.Next i) rfl hpn (hok.2.2 i hi)))) (fun n=>n (fun _ _ h2_=>h2_)))<|U 5 O<|A0 O O<|A8 ?_
 rfl
theorem A9X(m:Mem){vl:Value}{l:List NodeT}(hl:Sl m vl l){nx:Int}{next:Nat}(hnx:nx=next)(hok:A2S l next):Exact prog 118 #[vl,J nx] m (.bool true):=by
 subst hnx
 refine have s:=hl.le;D4 func118 O ntmps118 fun q=>q' 2 O<|o' O O fun u=>U 4 O<|fz (x:=(next:Int)) 0 O O O fun v c b=>have hl:=hl.mono c;q' 1 O<|y' (X.makeFunc (by intro x d;simp at d;subst d;all_goals exact⟨_,rfl⟩) rfl)<|n' zeroValue337 O fun r=>G7 (C1 (k:=0) sizeOf337 rfl rfl rfl rfl (J' rfl))<|U 3 O ?_
 refine M6 0 rfl rfl (fun w a g=>?_)
 refine have hl:=hl.mono a;have b:=b.mono a;q' 2 O<|l' hl O<|y' (OpX.t (X.geq rfl rfl) (by have o:=hok.1;omega))<|U 4 O<|l' hl O<|U 1 O<|y' (OpX.t (X.leq rfl rfl) (by have o:=hok.1;omega))<|U 5 O<|y' (X.makeFunc (by intro x d;simp at d;subst d;all_goals exact⟨_,rfl⟩) rfl)<|U 1 O<|y' (OpX.f (X.call call204 rfl (B2D (p:=fun _=>False) _ hl (caps:=[Pt r 0]) call205 (fun i hi cs n=>B0K _ n g b (hok.2 i hi)))) (fun o=>o (fun _ _ h2_=>h2_)))<|U 7 O<|A0 O O<|A8 ?_
 rfl
theorem B0V(m:Mem){t:H8}{pl:Addr}(hpl:At m pl t):S1 prog 201 [.pointer (some pl)] m false t.length (fun k m1 args=>∃v,args=#[J (((t.length-1-k:Nat)):Int),v]∧Sl m1 v (gt t (t.length-1-k))):=by
 intro lo S HS I Ix F x r H K
 refine G3 func201 O ntmps201 fun y=>q' 2 O<|s' hpl O fun L g=>have C:=g.le;l' g O<|U 5 O ?_
 have s:m.le m:=Mem.le_refl _
 refine lp (G:=Nat×Int×Mem×S) (fun(k,zi,mm,ss)=>t.length-k) (fun(k,zi,mm,ss)=>mm) (fun(k,zi,mm,ss)=>([]++HS ss)) (fun(k,zi,mm,ss)=>[(0,.func (.yield lo) #[] #[]),(1,.pointer (some (pl))),(3,J zi)]) (fun(k,zi,mm,ss)=>m.le mm∧I k mm ss∧k≤t.length∧zi=(t.length:Int)-1-k) ((0,↑t.length-1,m,F)) ?_ ?_
 ·exact⟨Mem.le_refl _,K,EF _,by omega⟩
 rintro⟨k,zi,mm,ss⟩ p
 conv=>enter [7];dsimp only
 conv=>enter [8];dsimp only
 try dsimp only at p
 obtain⟨f,w,P,E⟩:=p
 refine have hpl:=hpl.mono f;q' 4 O<|c' (X.geq O O) (fun z=>?_) fun z=>?_
 ·refine U 11 O<|s' hpl O fun M l=>have D:=l.le;U 1 O<|Q9 (BV runUnderlying77 sizeOf149 rfl rfl l (by omega) (by omega)) (by decide) fun N n=>s' n O fun B b=>?_
  have u:=b.le
  refine AB (T.yield (A:=[]) rfl rfl rfl (H k _ _ _ (by omega) f ⟨_,(by rw[show((t.length-1-k:Nat):Int)=zi by omega]),(by rw[show t.length-1-k=(zi:Int).toNat by omega];exact b)⟩ w)) (by decide) (fun o q c=>?_) (fun o q c=>?_)
  ·obtain⟨a,s2_,rfl,hI2_⟩:=c
   refine U 13 O ?_
   refine nx ((k+1,zi-1,o,s2_)) ?_ ?_
   ·exact⟨Mem.le_trans f a,hI2_,by omega,by omega⟩
   (dsimp only;omega)
  obtain⟨a,s2_,rfl,hI2_⟩:=c
  refine U 9 O ?_
  refine E9 rfl (fun w' d=>B3 (d.weaken (.refl _)) ?_)
  exact⟨s2_,rfl,.inr ⟨k+1,by omega,hI2_⟩⟩
 refine U 7 O ?_
 refine D0 rfl (fun w' d=>B3 (d.weaken (.refl _)) ?_)
 obtain rfl:k=t.length:=(by omega)
 exact⟨ss,rfl,.inl w⟩
theorem B3d(m:Mem){v:Value}{t:H8}(ht:Sl m v t):Pure prog 117 #[v] m (fun m' v=>∃lb,v= .func (.func 201) #[] lb.toArray∧S1 prog 201 lb m' false t.length (fun k m1 args=>∃v,args=#[J (((t.length-1-k:Nat)):Int),v]∧Sl m1 v (gt t (t.length-1-k)))):=by
 exact F6 func117 O ntmps117 fun d=>q' 2 O<|Au (Cv (cs:=[v]) rfl (D7 ht.one)) (by decide) fun f=>U 4 O<|fz (x:=t) 0 O O ⟨_,rfl,ht⟩ fun g b a=>q' 1 O<|y' (X.makeFunc (by intro x c;simp at c;subst c;all_goals exact⟨_,rfl⟩) rfl)<|U 4 O<|A0 O O<|C2<|⟨_,rfl,B0V _ a⟩
theorem Ow(m:Mem)(ct:List Value)(t:TrackT)(ht:Enc.rd m ct t)(hok:Ol t.Stages):Exact prog 59 #[.agg ct.toArray] m (J 0):=by
 obtain⟨N,rfl,M⟩:=ht
 refine have a7:=M.le;D4 func59 O ntmps59 fun a5=>q' 2 O<|o' O O fun c=>n' zeroValue39 O fun s=>U 1 O<|fz (x:=t) 1 O O ⟨_,rfl,M⟩ fun m6 a0 B=>E2<|q' 3 O<|f' O t'<|s' (G0 B) O fun o u=>have a1:=u.le;l' u O<|y' (OpX.f (X.lss rfl rfl) (by have H:=hok.1;omega))<|U 2 O<|f' O t'<|U 1 O<|s' (G0 B) O fun p w=>have a2:=w.le;U 1 O<|l' w O<|U 1 O<|y' (OpX.f (X.gtr rfl rfl) (by have H:=hok.1;omega))<|U 8 O<|n' zeroValue3 O fun b=>G7 (C1 (k:=0) sizeOf3 rfl rfl rfl rfl (J' rfl))<|U 5 O<|f' O t'<|s' (G0 B) O fun q z=>?_
 have a3:=z.le
 refine C0 (T.call call117 rfl (B3d _ z)) (by decide) (fun a6 _ P Q=>?_)
 obtain⟨d,rfl,C⟩:=Q
 refine U 3 O ?_
 refine WC.rangeFunc (S:=Int) (G:=Unit) (ps:=[19,20]) (n:=t.Stages.length) (A:=(fun k r a=>∃v,a=#[J (((t.Stages.length-1-k:Nat)):Int),v]∧Sl r v (gt t.Stages (t.Stages.length-1-k)))) rfl call201 C (fun F:Int=>[blk b 3 [J F],blk s 39 [J 0]]) (fun i _ F=>i<t.Stages.length→F=(Em t.Stages (t.Stages.length-1-i):Int)) (fun _ _ _ _=>False) 0 rfl (fun H=>A3K H) (fun h=>by cases h) (fun _ _ _ _ _ h=>h) (by simp) (fun i r a h=>by obtain⟨_,rfl,_⟩:=h;rfl) (fun _ gh=>(fun F:Int=>[blk b 3 [J F],blk s 39 [J 0]]) gh) (fun _ a=>(5,a.getD 1 undef)::[(0,.agg [N].toArray),(1,Pt c 0),(2,Pt s 0),(6,.pointer (some (((⟨c,0,none⟩:Addr)).add 0))),(7,o),(8,J t.Stages.length),(9,.bool false),(10,.bool false),(11,.pointer (some (((⟨c,0,none⟩:Addr)).add 0))),(12,p),(13,J t.Stages.length),(14,.bool false),(15,.bool false),(3,Pt b 0),(16,.pointer (some (((⟨c,0,none⟩:Addr)).add 0))),(17,q),(18,.func (.func 201) #[] d.toArray)]) ?_ ?_ ?_ ?_ ?_
 ·intro lo B1 r gh a KK l W
  obtain⟨x,y,rfl⟩:=A8O l
  refine qb ?_
  exact q' 4 O<|I8 (.cons rfl (.cons rfl (.cons rfl (.cons rfl (.cons rfl (.cons rfl (.cons rfl (.cons rfl (.cons rfl (.cons rfl (.cons rfl (.cons rfl (.cons rfl (.cons rfl (.cons rfl (.cons rfl (.cons rfl (.cons rfl .nil)))))))))))))))))) (W ())
 ·intro lo B1 i r gh a _ l hi E Y g
  obtain⟨x,y,rfl⟩:=A8O l
  obtain⟨vp,V,D⟩:=Y
  obtain⟨_,rfl⟩:x=_∧y=vp:=(by simpa using V)
  have I:=g hi
  subst I
  have K:=hok.2 (t.Stages.length-1-i) (by omega)
  have a4:=D.le
  have L:(Em t.Stages (t.Stages.length-1-i):Int)=(Em t.Stages (t.Stages.length-1-i):Int):=rfl
  show WK _ _ r [blk b 3 [J ((Em t.Stages (t.Stages.length-1-i):Int))],blk s 39 [J 0]] ((5,y)::[(0,.agg [N].toArray),(1,Pt c 0),(2,Pt s 0),(6,.pointer (some (((⟨c,0,none⟩:Addr)).add 0))),(7,o),(8,J t.Stages.length),(9,.bool false),(10,.bool false),(11,.pointer (some (((⟨c,0,none⟩:Addr)).add 0))),(12,p),(13,J t.Stages.length),(14,.bool false),(15,.bool false),(3,Pt b 0),(16,.pointer (some (((⟨c,0,none⟩:Addr)).add 0))),(17,q),(18,.func (.func 201) #[] d.toArray)]) _
  refine qb ?_
  exact q' 5 O<|b' 0 O O O<|y' (X.call call118 rfl (A9X _ D L K))<|U 8 O<|l' D O<|G7 (C1 (k:=0) sizeOf3 rfl rfl rfl rfl (J' rfl))<|U 2 O<|P6 (↑(gt t.Stages (t.Stages.length-1-i)).length) (Mem.le_refl _) (.refl _) (fun H=>A3I H)
 ·intro r gh E g
  refine I8 (σ':=[(0,.agg [N].toArray),(1,Pt c 0),(2,Pt s 0),(6,.pointer (some (((⟨c,0,none⟩:Addr)).add 0))),(7,o),(8,J t.Stages.length),(9,.bool false),(10,.bool false),(11,.pointer (some (((⟨c,0,none⟩:Addr)).add 0))),(12,p),(13,J t.Stages.length),(14,.bool false),(15,.bool false),(3,Pt b 0),(16,.pointer (some (((⟨c,0,none⟩:Addr)).add 0))),(17,q),(18,.func (.func 201) #[] d.toArray)]) (.cons rfl (.cons rfl (.cons rfl (.cons rfl (.cons rfl (.cons rfl (.cons rfl (.cons rfl (.cons rfl (.cons rfl (.cons rfl (.cons rfl (.cons rfl (.cons rfl (.cons rfl (.cons rfl (.cons rfl .nil))))))))))))))))) ?_
  show WK _ _ r [blk b 3 [J gh],blk s 39 [J 0]] [(0,.agg [N].toArray),(1,Pt c 0),(2,Pt s 0),(6,.pointer (some (((⟨c,0,none⟩:Addr)).add 0))),(7,o),(8,J t.Stages.length),(9,.bool false),(10,.bool false),(11,.pointer (some (((⟨c,0,none⟩:Addr)).add 0))),(12,p),(13,J t.Stages.length),(14,.bool false),(15,.bool false),(3,Pt b 0),(16,.pointer (some (((⟨c,0,none⟩:Addr)).add 0))),(17,q),(18,.func (.func 201) #[] d.toArray)] _
  refine P4<|E2<|q' 2 O<|G7 (C1 (k:=1) sizeOf39 rfl rfl rfl rfl (J' rfl))<|U 3 O ?_
  refine A9S 1 rfl rfl rfl isAgg39 (fun w' R=>Ret.exact R ?_)
  rfl
 ·intro i r gh E hi g
  exact g.elim
 intro id i r gh E hi g
 exact g.elim
theorem A5c(m:Mem)(ct:List Value)(t:TrackT)(ht:Enc.rd m ct t):Exact prog 352 #[.agg ct.toArray] m (J (t.Stages.length:Int)):=by
 obtain⟨q,rfl,b⟩:=ht
 refine have n:=b.le;D4 func352 O ntmps352 fun k=>q' 2 O<|o' O O fun o=>U 2 O<|fz (x:=t) 0 O O ⟨_,rfl,b⟩ fun p f c=>E2<|q' 2 O<|f' O t'<|have d:=G0 (At.zero c);f' O t'<|s' d O fun l a=>have g:=a.le;l' a O<|U 4 O<|A0 O O<|A8 ?_
 rfl
theorem A8Y(m:Mem)(ct:List Value)(t:TrackT)(ht:Enc.rd m ct t){i:Int}{k:Nat}(hi:i=k)(hk:k<t.Stages.length):Pure prog 351 #[.agg ct.toArray,J i] m (fun m' v=>Sl m' v (gt t.Stages k)):=by
 obtain⟨z,rfl,d⟩:=ht
 have u:=d.le
 subst hi
 exact F6 func351 O ntmps351 fun p=>q' 2 O<|o' O O fun w=>U 2 O<|fz (x:=t) 0 O O ⟨_,rfl,d⟩ fun y l f=>E2<|q' 2 O<|f' O t'<|have g:=G0 (At.zero f);f' O t'<|s' g O fun q a=>have n:=a.le;U 1 O<|x' k a O O fun r c=>s' c O fun s b=>have o:=b.le;U 4 O<|A0 O O<|C2<|b
theorem A7u(m:Mem){t:TrackT}{k:Nat}{pt ps:Addr}(hpt:At m pt t)(hps:At m ps (k:Int))(hk:k<t.Stages.length)(hto:∀n,n<(gt t.Stages k).length→∀j,j<(gt (gt t.Stages k) n).Next.length→0≤(gt (gt (gt t.Stages k) n).Next j).To):S1 prog 354 [.pointer (some pt),.pointer (some ps)] m false (H9 (gt t.Stages k)).length (Lx (H9 (gt t.Stages k))):=by
 intro lo S HS I Ix s0 a0 N hy h0
 refine G3 func354 O ntmps354 fun a1=>q' 2 O<|f' O t'<|have M:=G0 (At.zero hpt);f' O t'<|s' M O fun v3 r=>have a6:=r.le;i' hps O<|x' k r O O fun p6 F=>s' F O fun P b=>have Q:=b.le;l' b O<|U 4 O ?_
 have R:m.le m:=Mem.le_refl _
 refine Iz (fun(n:Nat) (mm:Mem) (ss:S)=>(gt t.Stages k).length-n) (fun n mm ss=>mm) (fun n mm ss=>([]++HS ss)) (fun n mm ss=>[(0,.func (.yield lo) #[] #[]),(13,P),(14,J (↑(gt t.Stages k).length)),(15,J n)]) (fun n mm ss=>m.le mm∧I (By (gt t.Stages k) n).length mm ss∧n≤(gt t.Stages k).length) 0 m s0 ?_ ?_
 ·exact⟨Mem.le_refl _,h0,EF _⟩
 rintro n mm ss ⟨p,hI,hn⟩
 refine have b:=b.mono p;q' 2 O<|c' (X.lss O O) (fun G=>?_) fun G=>?_
 ·refine U 11 O<|x' n b O O fun a2 s=>g' s O fun a3 u=>?_
  obtain⟨D,q,rfl,E,a⟩:=u
  refine have W:=E.le;have Y:=a.le;n' zeroValue152 O fun v=>U 1 O<|w' 0 O O O<|U 4 O<|f' O t'<|b' 0 O O O<|l' a O<|U 4 O ?_
  refine Iz (fun(j:Nat) (mn:Mem) (sr:S)=>(gt (gt t.Stages k) n).Next.length-j) (fun j mn sr=>mn) (fun j mn sr=>([blk v 152 [D,q]]++HS sr)) (fun j mn sr=>[(0,.func (.yield lo) #[] #[]),(4,J n),(13,P),(14,J (↑(gt t.Stages k).length)),(15,J n),(21,q),(22,J (↑((gt (gt t.Stages k) n).Next).length)),(23,J j)]) (fun j mn sr=>mm.le mn∧I ((By (gt t.Stages k) n).length+j) mn sr∧j≤(gt (gt t.Stages k) n).Next.length) 0 mm ss ?_ ?_
  ·exact⟨Mem.le_refl _,hI,EF _⟩
  rintro j mn sr ⟨f,hJ,hj⟩
  refine have a:=a.mono f;q' 2 O<|c' (X.lss O O) (fun H=>?_) fun H=>?_
  ·refine U 9 O ?_
   have B:n<(gt t.Stages k).length:=(by omega)
   have C:j<(gt (gt t.Stages k) n).Next.length:=(by omega)
   refine q' 1 O<|x' j a O O fun a4 w=>g' w O fun a5 y=>?_
   obtain rfl:=y
   refine n' zeroValue155 O fun K=>w' 0 O O O<|U 6 O<|f' O t'<|b' 0 O O O<|WL.x (V:=Value.agg [J n,J ((gt ((gt (gt t.Stages k) n).Next) j).To)].toArray) (X.build zeroValue349 runUnderlying349 (OV _ underlying349) rfl rfl) (by decide) ?_
   refine f' O t'<|y' (J5 (k:=0) (vs:=[J (((gt ((gt (gt t.Stages k) n).Next) j).Change).Lo),J (((gt ((gt (gt t.Stages k) n).Next) j).Change).Hi)]) isAgg23 sizeOf23 rfl rfl rfl rfl) ?_
   have c:=B2I (l:=(gt t.Stages k)) B C
   refine AB (T.yield (A:=[blk K 155 [J ((gt ((gt (gt t.Stages k) n).Next) j).To),J (((gt ((gt (gt t.Stages k) n).Next) j).Change).Lo),J (((gt ((gt (gt t.Stages k) n).Next) j).Change).Hi)],blk v 152 [D,q]]) rfl rfl rfl (hy _ _ _ _ c.1 (Mem.le_trans p f) (by show _=_;rw[c.2];dsimp only;rw[Int.toNat_of_nonneg (hto n B j C)]) hJ)) (by decide) (fun z L g=>?_) (fun z L g=>?_)
   ·obtain⟨d,s2_,rfl,hI2_⟩:=g
    exact U 12 O<|O7 (j+1) z s2_<|⟨Mem.le_trans f d,hI2_,by omega⟩
   obtain⟨d,s2_,rfl,hI2_⟩:=g
   refine U 13 O ?_
   refine E9 rfl (fun w' o=>B3 (o.weaken (.cons _ (.cons _ (.refl _)))) ?_)
   exact⟨s2_,rfl,.inr ⟨_,c.1,hI2_⟩⟩
  exact U 15 O<|O7 (n+1) mn sr<|⟨(Mem.le_trans p f),by rw[By,F',B5,show(gt (gt t.Stages k) n).Next.length=j by omega];exact hJ,by omega⟩
 refine U 8 O ?_
 refine D0 rfl (fun w' o=>B3 (o.weaken (.refl _)) ?_)
 obtain rfl:n=(gt t.Stages k).length:=(by omega)
 exact⟨ss,rfl,.inl hI⟩
theorem A0C(m:Mem)(ct:List Value)(t:TrackT)(ht:Enc.rd m ct t){i:Int}{k:Nat}(hi:i=k)(hk:k<t.Stages.length)(hto:∀n,n<(gt t.Stages k).length→∀j,j<(gt (gt t.Stages k) n).Next.length→0≤(gt (gt (gt t.Stages k) n).Next j).To):Pure prog 353 #[.agg ct.toArray,J i] m (fun m' v=>∃lb,v= .func (.func 354) #[] lb.toArray∧S1 prog 354 lb m' false (H9 (gt t.Stages k)).length (Lx (H9 (gt t.Stages k)))):=by
 obtain⟨u,rfl,d⟩:=ht
 have o:=d.le
 subst hi
 exact F6 func353 O ntmps353 fun l=>q' 2 O<|o' O O fun p=>o' O O fun q=>U 2 O<|fz (x:=t) 1 O O ⟨_,rfl,d⟩ fun r f a=>fz (α:=Int) (x:=↑k) 0 O O O fun s b c=>have a:=a.mono b;E2<|q' 2 O<|y' (X.makeFunc (by intro x g;simp at g;rcases g with rfl|rfl;all_goals exact⟨_,rfl⟩) rfl)<|U 4 O<|A0 O O<|C2<|⟨_,rfl,A7u _ a c hk hto⟩
theorem A5e(m:Mem)(ct:List Value)(t:TrackT)(ht:Enc.rd m ct t):Exact prog 358 #[.agg ct.toArray] m (J (t.Stages.length:Int)):=by
 obtain⟨q,rfl,b⟩:=ht
 refine have n:=b.le;D4 func358 O ntmps358 fun k=>q' 2 O<|o' O O fun o=>U 2 O<|fz (x:=t) 0 O O ⟨_,rfl,b⟩ fun p f c=>E2<|q' 2 O<|f' O t'<|have d:=G0 (At.zero c);f' O t'<|s' d O fun l a=>have g:=a.le;l' a O<|U 4 O<|A0 O O<|A8 ?_
 rfl
theorem A9E(m:Mem)(ct:List Value)(t:TrackT)(ht:Enc.rd m ct t){i:Int}{k:Nat}(hi:i=k)(hk:k<t.Stages.length):Pure prog 357 #[.agg ct.toArray,J i] m (fun m' v=>Sl m' v (gt t.Stages (t.Stages.length-1-k))):=by
 obtain⟨F,rfl,l⟩:=ht
 have C:=l.le
 subst hi
 refine F6 func357 O ntmps357 fun w=>q' 2 O<|o' O O fun D=>U 2 O<|fz (x:=t) 0 O O ⟨_,rfl,l⟩ fun E p d=>E2<|q' 2 O<|f' O t'<|have n:=G0 (At.zero d);f' O t'<|s' n O fun y a=>have q:=a.le;f' O t'<|have g:=G0 (At.zero d);f' O t'<|s' g O fun z b=>have r:=b.le;l' b O<|U 3 O ?_
 obtain⟨u,o⟩:∃qq__:Nat,((↑t.Stages.length-1)-↑k:Int)=(qq__:Int):=⟨((↑t.Stages.length-1)-↑k:Int).toNat,(by omega)⟩
 rw[o]
 refine x' u a O O fun A f=>s' f O fun B c=>have s:=c.le;U 4 O<|A0 O O<|C2 ?_
 rw[show t.Stages.length-1-k=u by omega];exact c
theorem A9W(m:Mem){t:TrackT}{k:Nat}{pt ps:Addr}(hpt:At m pt t)(hps:At m ps (k:Int))(hk:k+1<t.Stages.length)(hto:∀n,n<(gt t.Stages (t.Stages.length-2-k)).length→∀j,j<(gt (gt t.Stages (t.Stages.length-2-k)) n).Next.length→0≤(gt (gt (gt t.Stages (t.Stages.length-2-k)) n).Next j).To)(hcg:∀h∈H9 (gt t.Stages (t.Stages.length-2-k)),Ai h.s):S1 prog 360 [.pointer (some pt),.pointer (some ps)] m false (EK (gt t.Stages (t.Stages.length-2-k))).length (Lx (EK (gt t.Stages (t.Stages.length-2-k)))):=by
 intro ly S HS I Ix s0 a9 y hy h0
 refine G3 func360 O ntmps360 fun b0=>q' 2 O<|o' O O fun u=>U 4 O<|f' O t'<|g' (At.zero hpt) O fun c3 R=>?_
 obtain⟨r,rfl,P⟩:=R
 refine have b3:=P.le;WL.x (V:=Value.agg [r].toArray) (X.build zeroValue255 runUnderlying255 (PJ _ underlying255) rfl rfl) (by decide) ?_
 refine f' O t'<|have a4:=G0 (At.zero hpt);f' O t'<|s' a4 O fun q z=>have a8:=z.le;l' z O<|U 1 O<|i' hps O<|U 1 O ?_
 obtain⟨a,a5⟩:∃qq__:Nat,((↑t.Stages.length-2)-↑k:Int)=(qq__:Int):=⟨((↑t.Stages.length-2)-↑k:Int).toNat,(by omega)⟩
 rw[a5]
 have w:t.Stages.length-2-k=a:=(by omega)
 have o:EK (gt t.Stages a)=EK (gt t.Stages (t.Stages.length-2-k)):=by rw[w]
 refine C0 (T.call call353 rfl (A0C _ _ t ⟨_,rfl,P⟩ (by omega) (by omega) (w▸hto))) (by decide) (fun b2 _ v W=>?_)
 obtain⟨c,rfl,H⟩:=W
 refine U 3 O ?_
 refine N8 (S:=S) (G:=Nat×Nat) (ps:=[17,18]) (n:=(H9 (gt t.Stages a)).length) (A:=(Lx (H9 (gt t.Stages a)))) rfl call354 H (fun B:S=>([blk u 490 [.func (.yield ly) #[] #[]]]++HS B)) (fun i m_ B=>I i m_ B) (fun e_ i m_ B=>e_=Exit.ret∧Ix i m_ B) s0 rfl (y _ _ _ _ v h0) (fun h=>by cases h) y (by simp) (fun i Y b h=>by rw[show b=_ from h];rfl) (fun C b gh=>blk C.2 23 ((b.getD 1 undef).cells.toList)::blk C.1 349 ((b.getD 0 undef).cells.toList)::(fun B:S=>([blk u 490 [.func (.yield ly) #[] #[]]]++HS B)) gh) (fun C b=>(5,.pointer (some ⟨C.2,0,none⟩))::(4,.pointer (some ⟨C.1,0,none⟩))::[(0,.func (.yield ly) #[] #[]),(1,.pointer (some (pt))),(2,.pointer (some (ps))),(3,Pt u 0),(6,.pointer (some ((pt).add 0))),(7,.agg [r].toArray),(8,.agg [r].toArray),(9,.pointer (some ((pt).add 0))),(10,.pointer (some (((pt).add 0).add 0))),(11,q),(12,J t.Stages.length),(13,J (↑t.Stages.length-2)),(14,J k),(15,J a),(16,.func (.func 354) #[] c.toArray)]) ?_ ?_ ?_ ?_ ?_
 ·intro lo B1 i p gh b KK Q M g a6
  have F:b=[.agg [J (((gt (H9 (gt t.Stages a)) i).f:Int)),J (((gt (H9 (gt t.Stages a)) i).t:Int))].toArray,.agg [J (((gt (H9 (gt t.Stages a)) i).s.Lo:Int)),J (((gt (H9 (gt t.Stages a)) i).s.Hi:Int))].toArray]:=(by have:=Sd Array.toList (show b.toArray=#[.agg [J (((gt (H9 (gt t.Stages a)) i).f:Int)),J (((gt (H9 (gt t.Stages a)) i).t:Int))].toArray,.agg [J (((gt (H9 (gt t.Stages a)) i).s.Lo:Int)),J (((gt (H9 (gt t.Stages a)) i).s.Hi:Int))].toArray]from M);simpa using this)
  subst F
  refine qb ?_
  exact q' 2 O<|n' zeroValue349 O fun a0=>w' 0 O O O<|U 3 O<|n' zeroValue23 O fun a1=>w' 0 O O O<|U 1 O<|I8 (.cons rfl (.cons rfl (.cons rfl (.cons rfl (.cons rfl (.cons rfl (.cons rfl (.cons rfl (.cons rfl (.cons rfl (.cons rfl (.cons rfl (.cons rfl (.cons rfl (.cons rfl (.cons rfl (.cons rfl .nil))))))))))))))))) (a6 (a0,a1))
 ·intro lo B1 i p gh b C Q hi g M l
  have F:b=[.agg [J (((gt (H9 (gt t.Stages a)) i).f:Int)),J (((gt (H9 (gt t.Stages a)) i).t:Int))].toArray,.agg [J (((gt (H9 (gt t.Stages a)) i).s.Lo:Int)),J (((gt (H9 (gt t.Stages a)) i).s.Hi:Int))].toArray]:=(by have:=Sd Array.toList (show b.toArray=#[.agg [J (((gt (H9 (gt t.Stages a)) i).f:Int)),J (((gt (H9 (gt t.Stages a)) i).t:Int))].toArray,.agg [J (((gt (H9 (gt t.Stages a)) i).s.Lo:Int)),J (((gt (H9 (gt t.Stages a)) i).s.Hi:Int))].toArray]from M);simpa using this)
  subst F
  obtain⟨K,L⟩:=C
  have N:=hcg (gt (H9 (gt t.Stages a)) i) (by rw[w];exact M0 hi)
  unfold Ai at N
  show WK _ _ p ([blk L 23 [J (((gt (H9 (gt t.Stages a)) i).s.Lo:Int)),J (((gt (H9 (gt t.Stages a)) i).s.Hi:Int))],blk K 349 [J (((gt (H9 (gt t.Stages a)) i).f:Int)),J (((gt (H9 (gt t.Stages a)) i).t:Int))],blk u 490 [.func (.yield ly) #[] #[]]]++HS gh) [(5,Pt L 0),(4,Pt K 0),(0,.func (.yield ly) #[] #[]),(1,.pointer (some (pt))),(2,.pointer (some (ps))),(3,Pt u 0),(6,.pointer (some ((pt).add 0))),(7,.agg [r].toArray),(8,.agg [r].toArray),(9,.pointer (some ((pt).add 0))),(10,.pointer (some (((pt).add 0).add 0))),(11,q),(12,J t.Stages.length),(13,J (↑t.Stages.length-2)),(14,J k),(15,J a),(16,.func (.func 354) #[] c.toArray)] _
  refine qb ?_
  refine q' 3 O<|b' 2 O O O<|f' O t'<|b' 1 O O O<|f' O t'<|b' 1 O O O<|WL.x (V:=Value.agg [J (((gt (H9 (gt t.Stages a)) i).t:Int)),J (((gt (H9 (gt t.Stages a)) i).f:Int))].toArray) (X.build zeroValue349 runUnderlying349 (OV _ underlying349) rfl rfl) (by decide) ?_
  refine f' O t'<|b' 0 O O O<|y' (X.neg rfl (by omega) (by omega))<|f' O t'<|b' 0 O O O<|y' (X.neg rfl (by omega) (by omega))<|WL.x (V:=Value.agg [J (-(((gt (H9 (gt t.Stages a)) i).s.Hi:Int))),J (-(((gt (H9 (gt t.Stages a)) i).s.Lo:Int)))].toArray) (X.build zeroValue23 runUnderlying23 (H6 _ underlying23) rfl rfl) (by decide) ?_
  refine AB (T.yield (A:=[blk L 23 [J (((gt (H9 (gt t.Stages a)) i).s.Lo:Int)),J (((gt (H9 (gt t.Stages a)) i).s.Hi:Int))],blk K 349 [J (((gt (H9 (gt t.Stages a)) i).f:Int)),J (((gt (H9 (gt t.Stages a)) i).t:Int))],blk u 490 [.func (.yield ly) #[] #[]]]) rfl rfl rfl (hy i _ _ _ (by rw[←o,LM];exact hi) (Mem.le_trans v g) (by show _=_;rw[←o,B2q hi]) l)) (by decide) (fun a2 a3 D=>?_) (fun a2 a3 D=>?_)
  ·obtain⟨d,s2_,rfl,hI2_⟩:=D
   exact U 6 O<|P6 (s2_) d (.cons _ (.cons _ (.refl _))) hI2_
  obtain⟨d,s2_,rfl,hI2_⟩:=D
  exact U 6 O<|A9p (s2_) d (.cons _ (.cons _ (.refl _))) ⟨rfl,hI2_⟩
 ·intro p gh g l
  refine I8 (σ':=[(0,.func (.yield ly) #[] #[]),(1,.pointer (some (pt))),(2,.pointer (some (ps))),(3,Pt u 0),(6,.pointer (some ((pt).add 0))),(7,.agg [r].toArray),(8,.agg [r].toArray),(9,.pointer (some ((pt).add 0))),(10,.pointer (some (((pt).add 0).add 0))),(11,q),(12,J t.Stages.length),(13,J (↑t.Stages.length-2)),(14,J k),(15,J a),(16,.func (.func 354) #[] c.toArray)]) (.cons rfl (.cons rfl (.cons rfl (.cons rfl (.cons rfl (.cons rfl (.cons rfl (.cons rfl (.cons rfl (.cons rfl (.cons rfl (.cons rfl (.cons rfl (.cons rfl (.cons rfl .nil))))))))))))))) ?_
  show WK _ _ p ([blk u 490 [.func (.yield ly) #[] #[]]]++HS gh) [(0,.func (.yield ly) #[] #[]),(1,.pointer (some (pt))),(2,.pointer (some (ps))),(3,Pt u 0),(6,.pointer (some ((pt).add 0))),(7,.agg [r].toArray),(8,.agg [r].toArray),(9,.pointer (some ((pt).add 0))),(10,.pointer (some (((pt).add 0).add 0))),(11,q),(12,J t.Stages.length),(13,J (↑t.Stages.length-2)),(14,J k),(15,J a),(16,.func (.func 354) #[] c.toArray)] _
  refine P4 ?_
  refine D0 rfl (fun w' E=>B3 (E.weaken (.cons _ (.refl _))) ?_)
  exact⟨gh,rfl,.inl (by rw[←o,LM];exact l)⟩
 ·intro i Y gh a7 hi l
  refine I8 (σ':=[(0,.func (.yield ly) #[] #[]),(1,.pointer (some (pt))),(2,.pointer (some (ps))),(3,Pt u 0),(6,.pointer (some ((pt).add 0))),(7,.agg [r].toArray),(8,.agg [r].toArray),(9,.pointer (some ((pt).add 0))),(10,.pointer (some (((pt).add 0).add 0))),(11,q),(12,J t.Stages.length),(13,J (↑t.Stages.length-2)),(14,J k),(15,J a),(16,.func (.func 354) #[] c.toArray)]) (.cons rfl (.cons rfl (.cons rfl (.cons rfl (.cons rfl (.cons rfl (.cons rfl (.cons rfl (.cons rfl (.cons rfl (.cons rfl (.cons rfl (.cons rfl (.cons rfl (.cons rfl .nil))))))))))))))) ?_
  show WK _ _ Y ([blk u 490 [.func (.yield ly) #[] #[]]]++HS gh) [(0,.func (.yield ly) #[] #[]),(1,.pointer (some (pt))),(2,.pointer (some (ps))),(3,Pt u 0),(6,.pointer (some ((pt).add 0))),(7,.agg [r].toArray),(8,.agg [r].toArray),(9,.pointer (some ((pt).add 0))),(10,.pointer (some (((pt).add 0).add 0))),(11,q),(12,J t.Stages.length),(13,J (↑t.Stages.length-2)),(14,J k),(15,J a),(16,.func (.func 354) #[] c.toArray)] _
  refine A6f ?_
  refine E9 rfl (fun w' E=>B3 (E.weaken (.cons _ (.refl _))) ?_)
  exact⟨gh,rfl,.inr ⟨i,by rw[←o,LM];exact hi,l.2⟩⟩
 intro id i Y gh a7 hi l
 exact absurd l.1 (by simp)
theorem A8E(m:Mem)(ct:List Value)(t:TrackT)(ht:Enc.rd m ct t){i:Int}{k:Nat}(hi:i=k)(hk:k+1<t.Stages.length)(hto:∀n,n<(gt t.Stages (t.Stages.length-2-k)).length→∀j,j<(gt (gt t.Stages (t.Stages.length-2-k)) n).Next.length→0≤(gt (gt (gt t.Stages (t.Stages.length-2-k)) n).Next j).To)(hcg:∀h∈H9 (gt t.Stages (t.Stages.length-2-k)),Ai h.s):Pure prog 359 #[.agg ct.toArray,J i] m (fun m' v=>∃lb,v= .func (.func 360) #[] lb.toArray∧S1 prog 360 lb m' false (EK (gt t.Stages (t.Stages.length-2-k))).length (Lx (EK (gt t.Stages (t.Stages.length-2-k))))):=by
 obtain⟨w,rfl,d⟩:=ht
 have o:=d.le
 subst hi
 exact F6 func359 O ntmps359 fun l=>q' 2 O<|o' O O fun p=>o' O O fun q=>U 2 O<|fz (x:=t) 1 O O ⟨_,rfl,d⟩ fun r f a=>fz (α:=Int) (x:=↑k) 0 O O O fun u b c=>have a:=a.mono b;E2<|q' 2 O<|y' (X.makeFunc (by intro x g;simp at g;rcases g with rfl|rfl;all_goals exact⟨_,rfl⟩) rfl)<|U 4 O<|A0 O O<|C2<|⟨_,rfl,A9W _ a c hk hto hcg⟩
end Go.Proofs.T10
