import Derived.Test.YtooomcigmleneaaGreatT10W33
import Derived.Test.YtooomcigmleneaaGreatT10W34
set_option linter.all false
set_option maxHeartbeats 2000000
namespace Go.Proofs.S10
open Tryz Go Go.Kx Go.Proofs.T10
set_option maxRecDepth 20000
theorem G5:KeyT prog 73 NName where
 und:=⟨_,runUnderlying73⟩
 chk em k w:=by
  have c:∀(n:Nat) (i:Int),(Instr.checkKey em (n+1) 3 (J i)).run prog w= .ok () w:=fun n i=>by simp[Instr.checkKey,runUnderlying3]
  have h:∀n:Nat,(Instr.checkKey em (n+1+1) 73 (.agg (Flat.enc k).toArray)).run prog w= .ok () w:=fun n=>by
   rw[Instr.checkKey]
   simp[runUnderlying73,part,isAgg3,Flat.enc,c]
  exact h 9998
 eq a b w:=A4m 9998 a b w
 bits k:=by simp[Instr.sameBits,Flat.enc]
def NoteV(m:Mem)(v:Value):Prop:=∃c,∃x:NoteT,v= .agg c.toArray∧Enc.rd m c x
def Q7(v:Value):Prop:=∃a b:Int,v= .agg [.pointer none,J a,J b].toArray
def F9(α:Type)[Flat α](v:Value):Prop:=∃x:α,v= .agg (Flat.enc x).toArray
def Z2(v:Value):Prop:=∃q:Bool,v= .bool q
theorem NoteV.mono{m m':Mem}{v:Value}(h:NoteV m v)(hm:m.le m'):NoteV m' v:=let⟨c,x,h1,h2⟩:=h;⟨c,x,h1,Enc.mono hm h2⟩
theorem Mt{m:Mem}:NoteV m (.agg [J 0,J 0,J 0,J 0,J 0,J 0,J 0,J 0,J 0,J 0,J 0,J 0,J 0,J 0,J 0,J 0,J 0,S0,S0,S0,S0,J 0,J 0,J 0,J 0,J 0,J 0,J 0,J 0,J 0,J 0,J 0,J 0,J 0,J 0,J 0,J 0,J 0].toArray):=⟨_,(NoteT.mk 0 0 0 0 0 0 0 (Sheet.mk (Paper.mk 0 0 0 0 0 0 (Span.mk 0 0) (Span.mk 0 0)) [] [] (Drum.mk [] []) (Pen.mk 0 (Span.mk 0 0) 0)) (Mark.mk 0 (Span.mk 0 0)) (ReadT.mk 0 0 0 (Span.mk 0 0)) (Height.mk 0 (Span.mk 0 0)) (NName.mk 0 0)),rfl,⟨_,_,_,_,rfl,.nil,.nil,.nil,.nil⟩⟩
theorem B0i:Q7 (.agg [.pointer none,J 0,J 0].toArray):=⟨0,0,rfl⟩
theorem B4S{α:Type}[Inhabited α]{L:List α}{i:Nat}(hi:i<L.length):L.set i (gt L i)=L:=by
 apply SG
 intro j
 rw[SR]
 split
 ·rename_i h;subst h
  exact(S9 hi).symm
 ·rfl
def Qy(Q:NoteT→Prop)(kinds:List Int)(m:Mem)(args:Array Value):Prop:=∃c,∃x:NoteT,args=#[.agg c.toArray]∧Enc.rd m c x∧Q x∧(kinds.length=0∨∃i,i<kinds.length∧gt kinds i=x.Kind)
theorem B1C:CQ 230:=⟨call230,fun m a b ⟨x,c,_⟩ ⟨y,d,_⟩=>⟨_,A3Z m _ x c _ y d⟩⟩
theorem RL{l:List Int}{v:Int}(h:0≤A8M l v):∃i,i<l.length∧gt l i=v:=by
 rcases CB (fun i=>v=gt l i) l.length with⟨_,h1⟩|⟨h1,h2,_⟩
 ·exact absurd h1 ((BS _ _).1 h)
 ·exact⟨_,h1,h2.symm⟩
theorem A8a(m:Mem){v:Value}{L:List Station}(hL:Sl m v L)(hn:L.length≤100000):Mut prog 163 #[v] m [] (fun m' Es u=>∃xs,Es=[row u 128 4 L.length xs]∧RdL m' xs L∧u.oneCell'=true):=by
 refine G3 func163 O ntmps163 fun c=>q' 9 O ?_
 refine J6 (AX underlying47 rfl rfl hL) (by decide) (fun d=>?_) (fun d=>?_)
 ·refine U 4 O ?_
  obtain rfl:=hL.nil_of ‹_›
  refine Bu 128 4<|q' 6 O<|A0 O O<|I2 ?_
  first|exact⟨_,rfl,RdL.nil,rfl⟩|exact⟨_,rfl,RdL.nil,a⟩
 refine U 7 O ?_
 refine G2 (B2U A2A) (by decide) (fun g=>?_)
 refine U 1 O ?_
 refine B5C (A4C (α:=Station) (k:=0) A2A rfl rfl hL rfl RdL.nil (by first|omega|(simp;done)|(simp;omega)) (by first|omega|(simp;done)|(simp;omega))) (by decide) (fun l f b=>?_)
 refine E8 (k:=0) rfl (fun a=>?_)
 refine U 4 O<|A0 O O<|I2 ?_
 first|exact⟨_,rfl,RdL.nil,rfl⟩|exact⟨_,rfl,b,a⟩
theorem A0s(m:Mem){v:Value}{L:List Station}(hL:Sl m v L)(hn:L.length≤100000)(hh:∀i,i<L.length→(gt L i).Heights.length≤1000):Mut prog 84 #[v] m [] (fun m' Es u=>∃xs,Es=[row u 128 4 L.length xs]∧RdL m' xs L∧u.oneCell'=true):=by
 refine G3 func84 O ntmps84 fun G=>q' 8 O ?_
 refine C5 (H3 call163 rfl (A8a _ hL (by omega))) (by decide) (fun B Es2 r C o=>?_)
 obtain⟨y,rfl,z,Q⟩:=o
 refine U 7 O<|y' (U5 (k:=0) runUnderlying47 rfl rfl)<|U 4 O ?_
 refine Iz (fun(k:Nat) (xq:List Value) (mm:Mem)=>L.length-k) (fun k xq mm=>mm) (fun k xq mm=>[row (r) 128 4 (L).length (xq)]) (fun k xq mm=>[(3,r),(8,r),(9,J L.length),(10,J k)]) (fun k xq mm=>B.le mm∧RdL mm xq L∧k≤L.length) 0 y B ?_ ?_
 ·exact⟨Mem.le_refl _,z,EF _⟩
 rintro k xq mm ⟨A,b,S⟩
 refine q' 2 O<|c' (X.lss O O) (fun H=>?_) fun H=>?_
 ·refine U 11 O<|y' (A9 0 k)<|Q9 (Ry (k:=0) (i:=k) isAgg128 sizeOf128 rfl rfl rfl b (by omega)) (by decide) fun I p=>?_
  obtain⟨R,rfl,n⟩:=p
  refine have D:=n.le;n' zeroValue128 O fun K=>U 1 O<|w' 0 O O O<|U 2 O ?_
  have E:=hh k (by omega)
  refine q' 3 O<|f' O t'<|b' 0 O O O ?_
  refine C5 (H3 call164 rfl (FR _ n (by omega))) (by decide) (fun M Es17 s c o=>?_)
  obtain⟨rfl,F⟩:=o
  refine have b:=b.mono c;y' (A9 2 k)<|f' O t' ?_
  refine BR 0 rfl rfl (by unfold C7;omega) (fun t d f=>?_)
  replace b:=b.mono d
  refine B3l (A6S (k:=1) (i:=k) (off:=3) (us:=[s]) (a:=gt L k) sizeOf126 rfl rfl (D7 f.one) rfl (O' _) rfl (S9 (by omega)) b (show 3+1≤4 from E' _) (fun N ⟨_,P,_⟩=>by subst P;exact⟨_,rfl,f⟩) (A4 f.one C6)) (fun q g=>?_)
  have l:(L.set k (gt L k))=L:=B4S (by omega)
  rw[l]
  rw[l]at g
  exact U 8 O<|O7 (k+1) q t<|⟨(Mem.le_trans A (Mem.le_trans c d)),g,by omega⟩
 refine U 12 O ?_
 refine E8 (k:=0) rfl (fun w=>?_)
 refine U 4 O ?_
 refine A0 rfl rfl (fun w' x=>B3 (x.weaken (.cons_cons _ .slnil)) ?_)
 exact⟨_,rfl,b,w⟩
theorem A6d(m:Mem){v:Value}{l:List NoteT}(hl:Sl m v l):Pure prog 152 #[v] m (fun m' v=>∃b,v= .map (some b)∧MapM m' b NName (NoteV m')):=by
 refine have E:=hl.le;F6 func152 O ntmps152 fun A=>q' 7 O ?_
 refine WL.to (Y4 NName (NoteV m)) (by decide) (fun I m_ K q=>?_)
 obtain⟨n,t,rfl,rfl⟩:=q
 replace n:=n.symm
 subst n
 refine U 7 O<|l' hl O<|U 4 O ?_
 refine J4 (fun(k:Nat)=>l.length-k) (fun k=>[mapE t NName (NoteV m)]) (fun k=>[(3,.map (some t)),(7,v),(8,J l.length),(9,J k)]) (fun k=>k≤l.length) 0 ?_ ?_
 ·exact EF _
 rintro k u
 refine have N:=u;q' 2 O<|c' (X.lss O O) (fun B=>?_) fun B=>?_
 ·refine U 10 O<|x' k hl O O fun L r=>g' r O fun M s=>?_
  obtain⟨P,F,G,H,rfl,o,c,d,f⟩:=s
  exact have w:=o.le;have x:=c.le;have y:=d.le;have z:=f.le;n' zeroValue200 O fun C=>w' 0 O O O<|U 2 O<|B9 5 [4] []<|U' 1 O<|Z O O (L9 0 O O O)<|Z O O (X.call call154 rfl (J8 _ _ (gt l k) ⟨_,_,_,_,rfl,o,c,d,f⟩))<|Z O O (L9 0 O O O)<|Bl O O O (M2 (k:=(I0 ((gt l k)))) runUnderlying280 G5 rfl rfl rfl (show A7 _ 1=_ from rfl) ⟨_,(gt l k),rfl,⟨_,_,_,_,rfl,o,c,d,f⟩⟩)<|V' 7 O<|I6 (k+1)<|by omega
 refine U 10 O ?_
 refine FJ 0 rfl rfl (fun p g a=>?_)
 replace a:MapM p t NName (NoteV p):=a.up (fun _ D=>D.mono (g))
 exact q' 6 O<|A0 O O<|C2<|⟨_,rfl,a⟩
theorem A8Q(m:Mem){L:List NoteT}{p1 p2 p3:Addr}{b:Nat}{kinds:List Int}{Q:NoteT→Prop}(hp1:At m p1 L)(hp2:Cells m p2 [.map (some b)])(hM:MapM m b NName Z2)(hp3:At m p3 kinds)(hQ:∀i,i<L.length→Q (gt L i)):A3p prog 231 [.pointer (some p1),.pointer (some p2),.pointer (some p3)] m L.length (Qy Q kinds):=by
 intro lo S HS I Ix s0 P hy h0
 refine G3 func231 O ntmps231 fun a3=>q' 2 O<|s' hp1 O fun v1 q=>have a7:=q.le;l' q O<|U 4 O ?_
 have R:m.le m:=Mem.le_refl _
 refine lp (G:=Nat×Nat×Mem×S) (fun(k,i,mm,ss)=>L.length-k) (fun(k,i,mm,ss)=>mm) (fun(k,i,mm,ss)=>([]++HS ss)) (fun(k,i,mm,ss)=>[(0,.func (.yield lo) #[] #[]),(2,.pointer (some p2)),(3,.pointer (some (p3))),(7,v1),(8,J L.length),(9,J k)]) (fun(k,i,mm,ss)=>m.le mm∧I i mm ss∧i≤k∧k≤L.length) ((0,0,m,s0)) ?_ ?_
 ·exact⟨Mem.le_refl _,h0,E' _,EF _⟩
 rintro⟨k,i,mm,ss⟩ M
 obtain⟨o,y,a8,hk⟩:=M
 refine have hp2:=hp2.mono o;have hp3:=hp3.mono o;have hM:=hM.mono o;have q:=q.mono o;q' 2 O<|c' (X.lss O O) (fun h5=>?_) fun h5=>?_
 ·refine U 10 O<|x' k q O O fun p6 E=>g' E O fun c8 F=>?_
  obtain⟨z,B,C,D,rfl,c,d,g,n⟩:=F
  refine have V:=c.le;have W:=d.le;have Y:=g.le;have a0:=n.le;n' zeroValue200 O fun w=>w' 0 O O O<|U 4 O<|B9 16 [] []<|Z O O (J9 isAgg287 rfl hp2)<|Z O O (L9 0 O O O)<|Z O O (X.call call154 rfl (J8 _ _ (gt L k) ⟨_,_,_,_,rfl,c,d,g,n⟩))<|J0 O O (Pl (k:=(I0 ((gt L k)))) runUnderlying287 G5 zeroValue4 rfl rfl hM ⟨false,rfl⟩) (by decide) fun a4 x=>?_
  obtain⟨N,rfl⟩:=x
  cases N
  ·refine U' 1 O<|S' hp3 O O O fun a5 t=>have a1:=t.le;Z O O (A.l O t)<|C' O O (X.gtr O O) (fun H=>?_) fun H=>?_
   ·refine U' 1 O<|S' hp3 O O O fun a6 u=>have a2:=u.le;Z O O (A.f O)<|Z O O (A.b 0 O O O)<|C' O O (X.call call232 rfl (A0R _ _ _ u _)) (fun K=>?_) fun K=>?_
    ·refine U' 3 O<|V' 7 O<|a' 0 O O ?_
     refine AB (T.yield (A:=[blk w 200 [J ((gt L k).Clerk),J ((gt L k).Num),J ((gt L k).Clock),J ((gt L k).Day),J ((gt L k).Kind),J ((gt L k).Station),J ((gt L k).Week),J ((((gt L k).Sheet).Paper).Pitch),J ((((gt L k).Sheet).Paper).Height),J ((((gt L k).Sheet).Paper).Radius),J ((((gt L k).Sheet).Paper).Low),J ((((gt L k).Sheet).Paper).High),J ((((gt L k).Sheet).Paper).Columns),J (((((gt L k).Sheet).Paper).Along).Lo),J (((((gt L k).Sheet).Paper).Along).Hi),J (((((gt L k).Sheet).Paper).Across).Lo),J (((((gt L k).Sheet).Paper).Across).Hi),z,B,C,D,J ((((gt L k).Sheet).Pen).Band),J (((((gt L k).Sheet).Pen).Zero).Lo),J (((((gt L k).Sheet).Pen).Zero).Hi),J ((((gt L k).Sheet).Pen).Rate),J (((gt L k).Mark).Column),J ((((gt L k).Mark).Ticks).Lo),J ((((gt L k).Mark).Ticks).Hi),J (((gt L k).Read).Station),J (((gt L k).Read).Week),J (((gt L k).Read).Tick),J ((((gt L k).Read).Levels).Lo),J ((((gt L k).Read).Levels).Hi),J (((gt L k).Height).Week),J ((((gt L k).Height).Metres).Lo),J ((((gt L k).Height).Metres).Hi),J (((gt L k).Ref).Clerk),J (((gt L k).Ref).Num)]]) rfl rfl rfl (hy i _ _ _ (by omega) o ⟨_,(gt L k),rfl,⟨_,_,_,_,rfl,c,d,g,n⟩,hQ _ (by omega),(by first|exact .inl (by omega)|exact .inr (RL ‹_›))⟩ y)) (by decide) (fun r v p=>?_) (fun r v p=>?_)
     ·obtain⟨a,s2_,rfl,hI2_⟩:=p
      refine have c:=c.mono a;have d:=d.mono a;have g:=g.mono a;have n:=n.mono a;U 12 O ?_
      refine nx ((k+1,i+1,r,s2_)) ?_ ?_
      ·exact⟨Mem.le_trans o a,hI2_,by omega,by omega⟩
      (dsimp only;omega)
     obtain⟨a,s2_,rfl,hI2_⟩:=p
     refine have c:=c.mono a;have d:=d.mono a;have g:=g.mono a;have n:=n.mono a;U 9 O ?_
     refine E9 rfl (fun w' s=>B3 (s.weaken (.cons _ (.refl _))) ?_)
     exact⟨s2_,rfl,i+1,by omega,.inr hI2_⟩
    refine U' 3 O<|V' 11 O ?_
    refine nx ((k+1,i,mm,ss)) ?_ ?_
    ·exact⟨o,y,by omega,by omega⟩
    (dsimp only;omega)
   refine U' 8 O<|V' 7 O<|a' 0 O O ?_
   refine AB (T.yield (A:=[blk w 200 [J ((gt L k).Clerk),J ((gt L k).Num),J ((gt L k).Clock),J ((gt L k).Day),J ((gt L k).Kind),J ((gt L k).Station),J ((gt L k).Week),J ((((gt L k).Sheet).Paper).Pitch),J ((((gt L k).Sheet).Paper).Height),J ((((gt L k).Sheet).Paper).Radius),J ((((gt L k).Sheet).Paper).Low),J ((((gt L k).Sheet).Paper).High),J ((((gt L k).Sheet).Paper).Columns),J (((((gt L k).Sheet).Paper).Along).Lo),J (((((gt L k).Sheet).Paper).Along).Hi),J (((((gt L k).Sheet).Paper).Across).Lo),J (((((gt L k).Sheet).Paper).Across).Hi),z,B,C,D,J ((((gt L k).Sheet).Pen).Band),J (((((gt L k).Sheet).Pen).Zero).Lo),J (((((gt L k).Sheet).Pen).Zero).Hi),J ((((gt L k).Sheet).Pen).Rate),J (((gt L k).Mark).Column),J ((((gt L k).Mark).Ticks).Lo),J ((((gt L k).Mark).Ticks).Hi),J (((gt L k).Read).Station),J (((gt L k).Read).Week),J (((gt L k).Read).Tick),J ((((gt L k).Read).Levels).Lo),J ((((gt L k).Read).Levels).Hi),J (((gt L k).Height).Week),J ((((gt L k).Height).Metres).Lo),J ((((gt L k).Height).Metres).Hi),J (((gt L k).Ref).Clerk),J (((gt L k).Ref).Num)]]) rfl rfl rfl (hy i _ _ _ (by omega) o ⟨_,(gt L k),rfl,⟨_,_,_,_,rfl,c,d,g,n⟩,hQ _ (by omega),(by first|exact .inl (by omega)|exact .inr (RL ‹_›))⟩ y)) (by decide) (fun r v p=>?_) (fun r v p=>?_)
   ·obtain⟨a,s2_,rfl,hI2_⟩:=p
    refine U 12 O ?_
    refine nx ((k+1,i+1,r,s2_)) ?_ ?_
    ·exact⟨Mem.le_trans o a,hI2_,by omega,by omega⟩
    (dsimp only;omega)
   obtain⟨a,s2_,rfl,hI2_⟩:=p
   refine U 9 O ?_
   refine E9 rfl (fun w' s=>B3 (s.weaken (.cons _ (.refl _))) ?_)
   exact⟨s2_,rfl,i+1,by omega,.inr hI2_⟩
  refine U' 12 O<|V' 11 O ?_
  refine nx ((k+1,i,mm,ss)) ?_ ?_
  ·exact⟨o,y,by omega,by omega⟩
  (dsimp only;omega)
 refine U 8 O ?_
 refine D0 rfl (fun w' s=>B3 (s.weaken (.refl _)) ?_)
 exact⟨ss,rfl,i,by omega,.inl y⟩
theorem KG(m:Mem){v:Value}{l:List NoteT}(hl:Sl m v l){vk:Value}{kinds:List Int}(hk:Sl m vk kinds)(hn:l.length≤1000):Pure prog 153 #[v,vk] m (fun m' v=>∃lb n,v= .func (.func 231) #[] lb.toArray∧n≤l.length∧A3p prog 231 lb m' n (Qy (fun a=>a∈l) kinds)):=by
 refine F6 func153 O ntmps153 fun c0=>q' 2 O<|Au (Cv (cs:=[vk]) rfl (D7 hk.one)) (by decide) fun P=>U 5 O ?_
 refine WL.to (Y4 NName Z2) (by decide) (fun u_ m_ H_ R=>?_)
 obtain⟨z,N,rfl,rfl⟩:=R
 replace z:=z.symm
 subst z
 refine n' zeroValue287 O fun S=>G7 (C1 (k:=0) sizeOf287 rfl rfl rfl rfl (J' rfl))<|U 4 O<|n' zeroValue52 O fun T=>U 4 O<|Bu 200 38<|q' 2 O<|l' hl O<|U 4 O ?_
 refine lp (G:=Nat×Value×List Value×List NoteT) (fun(i,vM,xM,M)=>l.length-i) (fun(i,vM,xM,M)=>m) (fun(i,vM,xM,M)=>[row (vM) 200 38 (M).length (xM),blk T 52 [vM],blk S 287 [.map (some N)],mapE N NName Z2,blk P 27 [vk]]) (fun(i,vM,xM,M)=>[(3,Pt P 0),(5,Pt S 0),(6,Pt T 0),(10,v),(11,J l.length),(12,J i)]) (fun(i,vM,xM,M)=>i≤l.length∧M.length≤i∧RdL m xM M∧∀a∈M,a∈l) ((0,Value.slice none 0 0,[],[])) ?_ ?_
 ·exact⟨EF _,E' _,RdL.nil,fun a V=>by simp at V⟩
 rintro⟨i,vM,xM,M⟩ a6
 obtain⟨hi,d3,B,C⟩:=a6
 refine q' 2 O<|c' (X.lss O O) (fun h6=>?_) fun h6=>?_
 ·refine U 10 O<|x' i hl O O fun p7 W=>g' W O fun c9 E=>?_
  obtain⟨a7,a8,a9,b0,rfl,o,p,q,r⟩:=E
  refine have b6:=o.le;have b7:=p.le;have b8:=q.le;have b9:=r.le;n' zeroValue200 O fun c1=>w' 0 O O O<|U 4 O<|f' O t'<|b' 0 O O O<|c' (X.eql O O) (fun Y=>?_) fun Y=>?_
  ·refine U 4 O<|b' 3 O O O<|f' O t'<|y' (J5 (k:=0) (vs:=[J (((gt l i).Ref).Clerk),J (((gt l i).Ref).Num)]) isAgg73 sizeOf73 rfl rfl rfl rfl)<|B4P (M2 (k:=((gt l i).Ref)) runUnderlying287 G5 rfl rfl rfl (show A7 _ 4=_ from rfl) ⟨_,rfl⟩)<|U 8 O ?_
   refine nx ((i+1,vM,xM,M)) ?_ ?_
   ·exact⟨by omega,by first|omega|(simp only[F',N',P'];omega),B,C⟩
   (dsimp only;omega)
  refine U 4 O<|b' 2 O O O<|a' 0 O O<|R0 (G6 B4Z rfl rfl rfl (by decide)) (by decide) fun c2=>?_
  refine G2 (Ax (k:=1) (n':=(M++[gt l i]).length) B4Z rfl rfl rfl rfl rfl (A4 rfl (A4 rfl (A4 rfl (A4 rfl (A4 rfl (A4 rfl (A4 rfl (A4 rfl (A4 rfl (A4 rfl (A4 rfl (A4 rfl (A4 rfl (A4 rfl (A4 rfl (A4 rfl (A4 rfl (A4 o.one (A4 p.one (A4 q.one (A4 r.one (A4 rfl (A4 rfl (A4 rfl (A4 rfl (A4 rfl (A4 rfl (A4 rfl (A4 rfl (A4 rfl (A4 rfl (A4 rfl (A4 rfl (A4 rfl (A4 rfl (A4 rfl (A4 rfl (A4 rfl C6)))))))))))))))))))))))))))))))))))))) (by simp) (by first|omega|(simp;omega)) (by first|omega|(simp;omega))) (by decide) (fun a0=>?_)
  have K:=RdL.snoc (a:=gt l i) B ⟨_,_,_,_,rfl,o,p,q,r⟩
  refine E8 (k:=1) rfl (fun F=>?_)
  refine G7 (C1 (k:=2) sizeOf52 rfl rfl rfl F (J' rfl))<|U 8 O ?_
  refine nx ((i+1,a0,xM++[J ((gt l i).Clerk),J ((gt l i).Num),J ((gt l i).Clock),J ((gt l i).Day),J ((gt l i).Kind),J ((gt l i).Station),J ((gt l i).Week),J ((((gt l i).Sheet).Paper).Pitch),J ((((gt l i).Sheet).Paper).Height),J ((((gt l i).Sheet).Paper).Radius),J ((((gt l i).Sheet).Paper).Low),J ((((gt l i).Sheet).Paper).High),J ((((gt l i).Sheet).Paper).Columns),J (((((gt l i).Sheet).Paper).Along).Lo),J (((((gt l i).Sheet).Paper).Along).Hi),J (((((gt l i).Sheet).Paper).Across).Lo),J (((((gt l i).Sheet).Paper).Across).Hi),a7,a8,a9,b0,J ((((gt l i).Sheet).Pen).Band),J (((((gt l i).Sheet).Pen).Zero).Lo),J (((((gt l i).Sheet).Pen).Zero).Hi),J ((((gt l i).Sheet).Pen).Rate),J (((gt l i).Mark).Column),J ((((gt l i).Mark).Ticks).Lo),J ((((gt l i).Mark).Ticks).Hi),J (((gt l i).Read).Station),J (((gt l i).Read).Week),J (((gt l i).Read).Tick),J ((((gt l i).Read).Levels).Lo),J ((((gt l i).Read).Levels).Hi),J (((gt l i).Height).Week),J ((((gt l i).Height).Metres).Lo),J ((((gt l i).Height).Metres).Hi),J (((gt l i).Ref).Clerk),J (((gt l i).Ref).Num)],M++[gt l i])) ?_ ?_
  ·exact⟨by omega,by first|omega|(simp only[F',N',P'];omega),K,fun a V=>by rcases Sa.1 V with h_|h_;exact C a h_;obtain rfl:=Sp.1 h_;exact M0 (by omega)⟩
  (dsimp only;omega)
 refine U 10 O ?_
 refine RU (Q:=fun a=>a∈l) (n:=38) (k:=0) (by decide) rfl rfl B C (fun a1 b5 D=>?_)
 refine q' 1 O<|b' 1 O O O ?_
 refine C5 (C8 (A:=[blk T 52 [vM],blk S 287 [.map (some N)],mapE N NName Z2,blk P 27 [vk]]) call229 rfl (.refl _) (B4p _ (L:=a1) (by omega) D B1C)) (by decide) (fun c3 c4 u_ f a2=>?_)
 obtain⟨rfl,R31,rfl,s⟩:=a2
 refine have hk:=hk.mono f;have D:=D.mono f;have a5:=s.length_eq;have D:=GoodL.perm D s;U 3 O ?_
 refine MB (Q:=fun a=>a∈l) (n:=38) (k:=0) (by decide) rfl rfl D (fun L2 c5 c6 a3 a4=>?_)
 refine M7 0 rfl rfl a3 (by unfold C7;omega) (fun c7 t H=>?_)
 refine have hk:=hk.mono t;fz (α:=(List NoteT)) (x:=L2) 0 O O ⟨_,rfl,H⟩ fun c8 u b=>have hk:=hk.mono u;fz (x:=kinds) 2 O O ⟨_,rfl,hk⟩ fun d0 w c=>?_
 replace b:=b.mono w
 refine FJ 1 rfl rfl (fun d1 g y=>?_)
 replace b:=b.mono g
 replace c:=c.mono g
 refine M6 0 rfl rfl (fun d2 d I=>?_)
 exact have b:=b.mono d;have c:=c.mono d;have y:=y.mono d;q' 1 O<|y' (X.makeFunc (by intro x hx;simp at hx;rcases hx with rfl|rfl|rfl;all_goals exact⟨_,rfl⟩) rfl)<|U 4 O<|A0 O O<|C2<|⟨_,_,rfl,(by omega),A8Q _ (L:=L2) (kinds:=kinds) b I y c (fun i hi=>a4 _ (M0 hi))⟩
theorem B6h{B:Base}{m:Mem}{H:List Ent}{w:World}(hw:St B m H w){j k b g n c off la ca lb cb:Nat}{T e':TypeId}{cs xs:List Value}{sz':Nat}(hb:A7 H j=some (blk b T cs))(hr:A7 H k=some (row (.slice (some ⟨g,0,none⟩) n c) e' sz' n xs))(hn:0<n)(hs:0<sz')(hjk:j≠k):
 (callFunc 322 ([.slice (some ⟨b,0,none⟩) la ca,.slice (some ⟨g,off,none⟩) lb cb]:List Value).toArray).run prog w= .ok (.value (.bool false)) w:=by
 show(callFunc 322 #[.slice (some ⟨b,0,none⟩) la ca,.slice (some ⟨g,off,none⟩) lb cb]).run prog w=_
 rw[run_callFunc_extern func322 (by kernel_rfl) (by kernel_rfl) (by kernel_rfl) (e:=Extern.SlicesOverlaps.overlaps #[126,126] #[4]) (by kernel_rfl)]
 rw[Li hw underlying126 sizeOf198 hb hr hn hs (A6j hw hb hr hjk)]
 rfl
theorem A3i(s:Station):Er [s]=CU s:=by
 show(if CU s≠0 then CU s else 0)=CU s
 split
 ·rfl
 ·rename_i h;exact(Su h).symm
theorem Gh(m:Mem){v:Value}{b tb:Nat}{L:List Height}{k:Nat}{ik:Int}(hik:ik=k)(hk:k≤L.length)(h0:0<L.length)(hL:L.length≤1000)(h:Height):Mut prog 293 #[v,J ik,.slice (some ⟨b,0,none⟩) 1 1] m [A5 v 198 L,blk b tb [J h.Week,J h.Metres.Lo,J h.Metres.Hi]] (fun _ Es u=>Es=[A5 u 198 (L.take k++h::L.drop k)]∧u.oneCell'=true):=by
 subst hik
 refine G3 func293 O ntmps293 fun E=>q' 1 O ?_
 have l:(flat L).length=L.length*3:=F8 L
 have g:(flat (L.drop k)).length=(L.length-k)*3:=(by rw[F8,SE];rfl)
 have p:∀u∈([J h.Week,J h.Metres.Lo,J h.Metres.Hi]:List Value),u.oneCell'=true:=Flat.one h
 refine WK.form (k:=0) rfl h0 (fun A C r F=>?_)
 subst r
 refine q' 8 O<|y' (B1Y k underlying126 sizeOf198 rfl rfl rfl hk)<|U 5 O<|y' (Jz runUnderlying126 rfl (q:=1) rfl)<|U 16 O<|y' (V8 (k:=0) runUnderlying126 rfl rfl)<|U 8 O<|c' (X.eql O O) (fun G=>?_) fun G=>?_
 ·refine U 7 O ?_
  refine G2 (OpTo.perm (H':=[blk b tb [J h.Week,J h.Metres.Lo,J h.Metres.Hi],A5 (.slice (some ⟨A,0,none⟩) L.length C) 198 (L)]) (So (l₁:=[A5 (.slice (some ⟨A,0,none⟩) L.length C) 198 (L)]) (l₂:=[]) (a:=blk b tb [J h.Week,J h.Metres.Lo,J h.Metres.Hi])).symm (G1 (k:=0) (a:=h) Gr rfl rfl rfl rfl (by first|omega|(simp;done)|(simp;omega)) (by decide))) (by decide) (fun M=>?_)
  refine E8 (k:=0) rfl (fun s=>?_)
  refine U 5 O ?_
  refine A0 rfl rfl (fun w' n=>B3 (n.weaken (.cons_cons _ .slnil)) ?_)
  refine⟨?_,s⟩
  rw[show k=L.length by omega,Un,List.drop_length]
 refine U 12 O<|y' (X.cap runUnderlying126 rfl)<|c' (X.gtr O O) (fun H=>?_) fun H=>?_
 ·refine U 7 O<|y' (A0J k underlying126 sizeOf198 rfl rfl rfl (by omega) (by omega))<|U 5 O ?_
  refine WL.to (A5i (k:=0) Gr underlying3 (L.length+1-k) rfl rfl (by omega) rfl (by omega) (by omega) (by decide) (by omega) (by omega) (by omega) (N:=L.length+1) (by omega)) (by decide) (fun P m_ Q t=>?_)
  obtain⟨rfl,I,K,zs,rfl,D,o,rfl⟩:=t
  have d:zs.length=(L.length+1-k)*3:=o
  refine U 7 O<|y' (Ex k underlying126 sizeOf198 rfl rfl rfl (by omega) (by omega))<|U 1 O ?_
  have c:([Value.int .i64 h.Week,J h.Metres.Lo,J h.Metres.Hi]).length=min 1 ((L.length+1)-k)*3:=(by rw[show min 1 ((L.length+1)-k)=1 by omega];rfl)
  have f:k*3+([Value.int .i64 h.Week,J h.Metres.Lo,J h.Metres.Hi]).length≤((flat L).take (k*3)++zs).length:=(by rw[c];simp only[F',Sr,SE,l,g,d,N',P'];omega)
  refine A2D (DY (k:=0) ([J h.Week,J h.Metres.Lo,J h.Metres.Hi]) underlying126 sizeOf198 rfl rfl rfl c (fun B w x=>JV x (k:=2) rfl) f (by rw[c];omega) p) (by decide)<|U 3 O<|B9 9 [8] [8]<|U' 4 O<|Z O O (Ex (k+1) underlying126 sizeOf198 rfl rfl rfl (by omega) (by omega))<|U' 2 O<|Z O O (Ex k underlying126 sizeOf198 rfl rfl rfl (by omega) (by omega)) ?_
  have c:(flat (L.drop k)).length=min (L.length-k) ((L.length+1)-(k+1))*3:=(by rw[g];congr 1;omega)
  have f:(k+1)*3+(flat (L.drop k)).length≤(((flat L).take (k*3)++zs).take (k*3)++[Value.int .i64 h.Week,J h.Metres.Lo,J h.Metres.Hi]++((flat L).take (k*3)++zs).drop (k*3+([Value.int .i64 h.Week,J h.Metres.Lo,J h.Metres.Hi]).length)).length:=(by rw[c];simp only[F',Sr,SE,l,g,d,N',P'];omega)
  refine A2L O O O O (DY (k:=0) (flat (L.drop k)) underlying126 sizeOf198 rfl rfl rfl c (A1y (k:=1) rfl (Pz hk)) f (by rw[c];omega) (Ge _)) (by decide)<|V' 9 O ?_
  refine A0 rfl rfl (fun w' n=>B3 (n.weaken (.cons_cons _ (.cons _ (.cons _ .slnil)))) ?_)
  exact⟨Sd (fun y=>[y]) (Og (JO hk) (A9q hk o)),rfl⟩
 refine U 11 O<|y' (B3M (L.length+1) underlying126 sizeOf198 rfl rfl rfl (by omega) (by omega))<|U 5 O ?_
 refine A3j (k:=0) (h:=L.length+1) rfl (by omega) (by omega) (fun zs o=>?_)
 have d:zs.length=(L.length+1-L.length)*3:=o
 refine q' 6 O<|y' (Ex (k+1) underlying126 sizeOf198 rfl rfl rfl (by omega) (by omega))<|y' (X.ext rfl (fun R z=>B6h z (j:=1) (k:=0) rfl rfl (by omega) (by decide) (by decide)))<|U 5 O<|B9 9 [8] [8]<|U' 4 O<|Z O O (Ex (k+1) underlying126 sizeOf198 rfl rfl rfl (by omega) (by omega))<|U' 2 O<|Z O O (Ex k underlying126 sizeOf198 rfl rfl rfl (by omega) (by omega)) ?_
 have c:(flat (L.drop k)).length=min ((L.length+1)-k) ((L.length+1)-(k+1))*3:=(by rw[g];congr 1;omega)
 have f:(k+1)*3+(flat (L.drop k)).length≤(flat L++zs).length:=(by rw[c];simp only[F',Sr,SE,l,g,d,N',P'];omega)
 refine A2L O O O O (DY (k:=0) (flat (L.drop k)) underlying126 sizeOf198 rfl rfl rfl c (A1y (k:=0) rfl (A3L hk)) f (by rw[c];omega) (Ge _)) (by decide)<|V' 5 O<|y' (Ex k underlying126 sizeOf198 rfl rfl rfl (by omega) (by omega))<|U 1 O ?_
 have c:([Value.int .i64 h.Week,J h.Metres.Lo,J h.Metres.Hi]).length=min 1 ((L.length+1)-k)*3:=(by rw[show min 1 ((L.length+1)-k)=1 by omega];rfl)
 have f:k*3+([Value.int .i64 h.Week,J h.Metres.Lo,J h.Metres.Hi]).length≤((flat L++zs).take ((k+1)*3)++flat (L.drop k)++(flat L++zs).drop ((k+1)*3+(flat (L.drop k)).length)).length:=(by rw[c];simp only[F',Sr,SE,l,g,d,N',P'];omega)
 refine A2D (DY (k:=0) ([J h.Week,J h.Metres.Lo,J h.Metres.Hi]) underlying126 sizeOf198 rfl rfl rfl c (fun B w x=>JV x (k:=1) rfl) f (by rw[c];omega) p) (by decide)<|U 10 O ?_
 refine A0 rfl rfl (fun w' n=>B3 (n.weaken (.cons_cons _ (.cons _ .slnil))) ?_)
 exact⟨Sd (fun y=>[y]) (Og (JO hk) (A6G hk o)),rfl⟩
theorem Ig{G:Prop}(h:G:=by exact⟨_,((Station.mk (0) (0) (0) ([]))),_,rfl,⟨_,rfl,.nil⟩,(by first|exact EF _|exact Sz (Nat.le_of_eq hil_) (by omega)|omega|(dsimp only;omega))⟩):G:=h
theorem A1x(m:Mem)(cs:List Value)(s:Station)(hs:Enc.rd m cs s)(ch:List Value)(h:Height)(hh:Enc.rd m ch h):Pure prog 235 #[.agg cs.toArray,.agg ch.toArray] m (fun m' v=>∃(r0:List Value) (x0:Station) (z1:Int),v= .tuple #[.agg r0.toArray,J z1]∧Enc.rd m' r0 x0∧x0.Heights.length≤1000):=by
 obtain⟨v1,rfl,a⟩:=hs
 have d8:=a.le
 obtain rfl:=hh
 refine have d9:=A3i s;F6 func235 O ntmps235 fun c2=>q' 2 O<|o' O O fun y=>o' O O fun I=>n' zeroValue128 O fun z=>U 6 O<|a' 2 O O ?_
 refine C0 (M5 (α:=Station) (vals:=[.agg [J s.ID,J s.X,J s.Y,v1].toArray]) (L:=[s]) A2A rfl (.cons rfl ⟨_,rfl,a⟩ .nil) rfl rfl) (by decide) (fun m7 v8 K M=>?_)
 refine have a:=a.mono K;y' (X.call call292 rfl (A9A _ _ _ M))<|U 6 O<|e' (X.neq O O) (fun a0=>?_) fun a0=>?_
 ·refine U 5 O<|WL.x (V:=Value.agg [J 0,J 0,J 0,S0].toArray) (X.build zeroValue128 runUnderlying128 (IF _ underlying128) rfl rfl) (by decide) ?_
  exact U 1 O<|w' 0 O O O<|U 5 O<|E6 0 O O O O isAgg128 sizeOf128<|C2<|Ig
 refine U 6 O ?_
 have P:=A5q (s:=s) (by omega)
 refine have e0:=P.2.1;q' 6 O ?_
 refine J4 (fun(k:Nat)=>s.Heights.length-k) (fun k=>[blk z 128 [J 0,J 0,J 0,S0],blk I 198 [J h.Week,J h.Metres.Lo,J h.Metres.Hi],blk y 128 [J s.ID,J s.X,J s.Y,v1]]) (fun k=>[(2,Pt y 0),(3,Pt I 0),(4,Pt z 0),(7,J k)]) (fun k=>k≤s.Heights.length) 0 ?_ ?_
 ·exact EF _
 rintro k Q
 refine have hk:=Q;q' 2 O<|B9 16 [] []<|U' 1 O<|Z O O (A.f O)<|Z O O (A.b 2 O O O)<|Z O O (A.l O a)<|C' O O (X.lss O O) (fun a1=>?_) fun a1=>?_
 ·refine U' 1 O<|Z O O (A.f O)<|Z O O (A.b 2 O O O)<|U' 1 O<|X' k a O O O O fun c3 N=>Z O O (A.f O)<|Z O O (A.i O (En N))<|Z O O (A.f O)<|Z O O (A.b 1 O O O)<|C' O O (X.lss O O) (fun a2=>?_) fun a2=>?_
  ·exact U' 1 O<|V' 12 O<|I6 (k+1)<|by omega
  refine U' 1 O<|V' 7 O ?_
  refine cu2 (fun(d:Mem) (g:Value)=>d) (fun d g=>[A5 (g) 198 (s.Heights.take k++h::s.Heights.drop k),blk z 128 [J 0,J 0,J 0,S0],blk I 198 [J h.Week,J h.Metres.Lo,J h.Metres.Hi],blk y 128 [J s.ID,J s.X,J s.Y,g]]) (fun d g=>[(2,Pt y 0),(4,Pt z 0)]) (fun d g=>m7.le d) ?_ ?_
  ·refine L4 (π:=sq [0,1,3,4] (.fork (sq [2,5,6,7,8] .done) (sq [5,2,6,7,8] .done))) [2,5,6,8] [6,8] O (by kernel_rfl)<|Z O O (A.f O)<|Z O O (A.b 2 O O O)<|U' 1 O<|Z O O (L9 1 O O O) ?_
   refine DW.fork (SW _ _) ?_ ?_
   ·refine AY rfl rfl rfl (H3 call164 rfl (FR _ a (by omega))) (by decide) (fun c4 Es20 c5 p c=>?_)
    obtain⟨rfl,b8⟩:=c
    refine have a:=a.mono p;As O O O (G6 Gr rfl rfl rfl (by decide)) (by decide) fun c6=>?_
    refine DH rfl rfl rfl rfl (K5 [1,0] call293 O (Gh _ (L:=s.Heights) (k:=k) (by omega) (by omega) (by omega) (by omega) h)) (by decide) (fun a3 D a4 q c=>?_)
    obtain⟨rfl,R⟩:=c
    exact have a:=a.mono q;Z O O (A.f O)<|B4 O O O O (C1 (k:=3) sizeOf126 rfl rfl rfl R (J' rfl))<|V' 1 O<|CZ a3 a4<|Mem.le_trans p q
   refine As rfl rfl rfl (G6 Gr rfl rfl rfl (by decide)) (by decide) fun c7=>?_
   refine AY rfl rfl rfl (H3 call164 rfl (FR _ a (by omega))) (by decide) (fun c8 Es31 c9 r c=>?_)
   obtain⟨rfl,b9⟩:=c
   replace a:=a.mono r
   refine DH rfl rfl rfl rfl (C8 (A:=[blk z 128 [J 0,J 0,J 0,S0],blk I 198 [J h.Week,J h.Metres.Lo,J h.Metres.Hi],blk y 128 [J s.ID,J s.X,J s.Y,v1]]) call293 rfl (.refl _) (Gh _ (L:=s.Heights) (k:=k) (by omega) (by omega) (by omega) (by omega) h)) (by decide) (fun a5 D a6 t c=>?_)
   obtain⟨rfl,S⟩:=c
   exact have a:=a.mono t;Z O O (A.f O)<|B4 O O O O (C1 (k:=3) sizeOf126 rfl rfl rfl S (J' rfl))<|V' 1 O<|CZ a5 a6<|Mem.le_trans r t
  rintro d g H
  refine have a:=a.mono H;q' 2 O ?_
  have hil_:(s.Heights.take k++h::s.Heights.drop k).length=s.Heights.length+1:=(JO (by omega)).symm
  refine q' 1 O<|f' O t'<|b' 3 O O O ?_
  refine BR 0 rfl rfl (by unfold C7;omega) (fun d0 E B=>?_)
  refine have a:=a.mono E;c' (X.call call171 rfl (JS _ _ _ B)) (fun a7=>?_) fun a7=>?_
  ·exact U 8 O<|a' 2 O O<|w' 0 O O O<|U 4 O<|E6 0 O O O O isAgg128 sizeOf128<|C2<|⟨_,((Station.mk (s.ID) (s.X) (s.Y) (s.Heights.take k++h::s.Heights.drop k))),_,rfl,⟨_,rfl,B⟩,(by first|exact EF _|exact Sz (Nat.le_of_eq hil_) (by omega)|omega|((try dsimp only);omega))⟩
  refine U 6 O<|WL.x (V:=Value.agg [J 0,J 0,J 0,S0].toArray) (X.build zeroValue128 runUnderlying128 (IF _ underlying128) rfl rfl) (by decide) ?_
  exact w' 0 O O O<|U 5 O<|E6 0 O O O O isAgg128 sizeOf128<|C2<|Ig
 refine U' 11 O<|V' 7 O ?_
 refine cu2 (fun(n:Mem) (o:Value)=>n) (fun n o=>[A5 (o) 198 (s.Heights.take k++h::s.Heights.drop k),blk z 128 [J 0,J 0,J 0,S0],blk I 198 [J h.Week,J h.Metres.Lo,J h.Metres.Hi],blk y 128 [J s.ID,J s.X,J s.Y,o]]) (fun n o=>[(2,Pt y 0),(4,Pt z 0)]) (fun n o=>m7.le n) ?_ ?_
 ·refine L4 (π:=sq [0,1,3,4] (.fork (sq [2,5,6,7,8] .done) (sq [5,2,6,7,8] .done))) [2,5,6,8] [6,8] O (by kernel_rfl)<|Z O O (A.f O)<|Z O O (A.b 2 O O O)<|U' 1 O<|Z O O (L9 1 O O O) ?_
  refine DW.fork (SW _ _) ?_ ?_
  ·refine AY rfl rfl rfl (H3 call164 rfl (FR _ a (by omega))) (by decide) (fun d1 Es46 d2 u c=>?_)
   obtain⟨rfl,c0⟩:=c
   refine have a:=a.mono u;As O O O (G6 Gr rfl rfl rfl (by decide)) (by decide) fun d3=>?_
   refine DH rfl rfl rfl rfl (K5 [1,0] call293 O (Gh _ (L:=s.Heights) (k:=k) (by omega) (by omega) (by omega) (by omega) h)) (by decide) (fun a8 D a9 w c=>?_)
   obtain⟨rfl,T⟩:=c
   exact have a:=a.mono w;Z O O (A.f O)<|B4 O O O O (C1 (k:=3) sizeOf126 rfl rfl rfl T (J' rfl))<|V' 1 O<|CZ a8 a9<|Mem.le_trans u w
  refine As rfl rfl rfl (G6 Gr rfl rfl rfl (by decide)) (by decide) fun d4=>?_
  refine AY rfl rfl rfl (H3 call164 rfl (FR _ a (by omega))) (by decide) (fun d5 Es57 d6 F c=>?_)
  obtain⟨rfl,c1⟩:=c
  refine DH rfl rfl rfl rfl (C8 (A:=[blk z 128 [J 0,J 0,J 0,S0],blk I 198 [J h.Week,J h.Metres.Lo,J h.Metres.Hi],blk y 128 [J s.ID,J s.X,J s.Y,v1]]) call293 rfl (.refl _) (Gh _ (L:=s.Heights) (k:=k) (by omega) (by omega) (by omega) (by omega) h)) (by decide) (fun b0 D b1 G c=>?_)
  obtain⟨rfl,W⟩:=c
  exact Z O O (A.f O)<|B4 O O O O (C1 (k:=3) sizeOf126 rfl rfl rfl W (J' rfl))<|V' 1 O<|CZ b0 b1<|Mem.le_trans F G
 rintro n o b7
 refine q' 2 O ?_
 have hil_:(s.Heights.take k++h::s.Heights.drop k).length=s.Heights.length+1:=(JO (by omega)).symm
 refine q' 1 O<|f' O t'<|b' 3 O O O ?_
 refine BR 0 rfl rfl (by unfold C7;omega) (fun d7 b2 C=>?_)
 refine c' (X.call call171 rfl (JS _ _ _ C)) (fun b3=>?_) fun b3=>?_
 ·exact U 8 O<|a' 2 O O<|w' 0 O O O<|U 4 O<|E6 0 O O O O isAgg128 sizeOf128<|C2<|⟨_,((Station.mk (s.ID) (s.X) (s.Y) (s.Heights.take k++h::s.Heights.drop k))),_,rfl,⟨_,rfl,C⟩,(by first|exact EF _|exact Sz (Nat.le_of_eq hil_) (by omega)|omega|((try dsimp only);omega))⟩
 refine U 6 O<|WL.x (V:=Value.agg [J 0,J 0,J 0,S0].toArray) (X.build zeroValue128 runUnderlying128 (IF _ underlying128) rfl rfl) (by decide) ?_
 exact w' 0 O O O<|U 5 O<|E6 0 O O O O isAgg128 sizeOf128<|C2<|Ig
end Go.Proofs.S10
