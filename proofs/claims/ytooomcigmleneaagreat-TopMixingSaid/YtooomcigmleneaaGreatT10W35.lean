import Derived.Test.YtooomcigmleneaaGreatKxW
import Derived.Test.YtooomcigmleneaaGreatKyP
import Derived.Test.YtooomcigmleneaaGreatT10Ty
import Derived.Test.YtooomcigmleneaaGreatKxU
import Derived.Test.YtooomcigmleneaaGreatT10W33
import Derived.Test.YtooomcigmleneaaGreatT10W34
import Derived.Test.YtooomcigmleneaaGreatKyJ
import Derived.Test.YtooomcigmleneaaGreatKxS
set_option linter.all false
set_option maxHeartbeats 2000000
namespace Go.Proofs.S10
open Tryz
set_option maxRecDepth 20000
open Go Go.Kx Go.Proofs.T10
theorem F5:KeyT prog 73 NName where
 und:=⟨_,runUnderlying73⟩
 chk em k w:=by
  have h3:∀(n:Nat) (i:Int),(Instr.checkKey em (n+1) 3 (J i)).run prog w= .ok () w:=fun n i=>by simp[Instr.checkKey,runUnderlying3]
  have h:∀n:Nat,(Instr.checkKey em (n+1+1) 73 (.agg (Flat.enc k).toArray)).run prog w= .ok () w:=fun n=>by
   rw[Instr.checkKey]
   simp[runUnderlying73,part,isAgg3,Flat.enc,h3]
  exact h 9998
 eq a b w:=B6Y 9998 a b w
 bits k:=by simp[Instr.sameBits,Flat.enc]
def NoteV(m:Mem)(v:Value):Prop:=∃c,∃x:NoteT,v= .agg c.toArray∧Enc.rd m c x
def O7(v:Value):Prop:=∃a b:Int,v= .agg [.pointer none,J a,J b].toArray
def E9(α:Type)[Flat α](v:Value):Prop:=∃x:α,v= .agg (Flat.enc x).toArray
def W6(v:Value):Prop:=∃q:Bool,v= .bool q
theorem NoteV.mono{m m':Mem}{v:Value}(h:NoteV m v)(hm:m.le m'):NoteV m' v:=let⟨c,x,h1,h2⟩:=h;⟨c,x,h1,Enc.mono hm h2⟩
theorem A9y{m:Mem}:NoteV m (.agg [J 0,J 0,J 0,J 0,J 0,J 0,J 0,J 0,J 0,J 0,J 0,J 0,J 0,J 0,J 0,J 0,J 0,S0,S0,S0,S0,J 0,J 0,J 0,J 0,J 0,J 0,J 0,J 0,J 0,J 0,J 0,J 0,J 0,J 0,J 0,J 0,J 0].toArray):=⟨_,(NoteT.mk 0 0 0 0 0 0 0 (Sheet.mk (Paper.mk 0 0 0 0 0 0 (Span.mk 0 0) (Span.mk 0 0)) [] [] (Drum.mk [] []) (Pen.mk 0 (Span.mk 0 0) 0)) (Mark.mk 0 (Span.mk 0 0)) (ReadT.mk 0 0 0 (Span.mk 0 0)) (Height.mk 0 (Span.mk 0 0)) (NName.mk 0 0)),rfl,⟨_,_,_,_,rfl,.nil,.nil,.nil,.nil⟩⟩
theorem C2K:O7 (.agg [.pointer none,J 0,J 0].toArray):=⟨0,0,rfl⟩
theorem C5Z{α:Type}[Inhabited α]{L:List α}{i:Nat}(hi:i<L.length):L.set i (gt L i)=L:=by
 apply List.ext_getElem?
 intro j
 rw[List.getElem?_set]
 split
 ·rename_i h;subst h
  exact(A0W hi).symm
 ·rfl
def B2y(Q:NoteT→Prop)(kinds:List Int)(m:Mem)(args:Array Value):Prop:=∃c,∃x:NoteT,args=#[.agg c.toArray]∧Enc.rd m c x∧Q x∧(kinds.length=0∨∃i,i<kinds.length∧gt kinds i=x.Kind)
theorem C3G:A2h 230:=⟨call230,fun m a b ⟨x,hx,_⟩ ⟨y,hy,_⟩=>⟨_,B6R m _ x hx _ y hy⟩⟩
theorem B2D{l:List Int}{v:Int}(h:0≤C2l l v):∃i,i<l.length∧gt l i=v:=by
 rcases A1O (fun i=>v=gt l i) l.length with⟨_,h1⟩|⟨h1,h2,_⟩
 ·exact absurd h1 ((A5I _ _).1 h)
 ·exact⟨_,h1,h2.symm⟩
theorem C0Y(m:Mem){v:Value}{L:List Station}(hL:Sl m v L)(hn:L.length≤100000):Mut prog 163 #[v] m [] (fun m' Es u=>∃xs,Es=[row u 128 4 L.length xs]∧RdL m' xs L∧u.oneCell'=true):=by
 refine G3 func163 r' ntmps163 fun wld=>q' 9 r' ?_
 refine K2 (A1k underlying47 rfl rfl hL) (by decide) (fun h1=>?_) (fun h1=>?_)
 ·refine v' 4 r' ?_
  obtain rfl:=hL.nil_of (by assumption)
  refine A0r 128 4<|q' 6 r'<|A0 r' r'<|G0 ?_
  first|exact⟨_,rfl,RdL.nil,rfl⟩|exact⟨_,rfl,RdL.nil,ho_⟩
 refine v' 7 r' ?_
 refine G2 (C3M A6R) (by decide) (fun v2=>?_)
 refine v' 1 r' ?_
 refine C7m (B9p (α:=Station) (k:=0) A6R rfl rfl hL rfl RdL.nil (by first|omega|(simp;done)|(simp;omega)) (by first|omega|(simp;done)|(simp;omega))) (by decide) (fun v3 ys4 hx5=>?_)
 refine F7 (k:=0) rfl (fun ho_=>?_)
 refine v' 4 r'<|A0 r' r'<|G0 ?_
 first|exact⟨_,rfl,RdL.nil,rfl⟩|exact⟨_,rfl,hx5,ho_⟩
theorem B3W(m:Mem){v:Value}{L:List Station}(hL:Sl m v L)(hn:L.length≤100000)(hh:∀i,i<L.length→(gt L i).Heights.length≤1000):Mut prog 84 #[v] m [] (fun m' Es u=>∃xs,Es=[row u 128 4 L.length xs]∧RdL m' xs L∧u.oneCell'=true):=by
 refine G3 func84 r' ntmps84 fun wld=>q' 8 r' ?_
 refine C2 (J5 call163 rfl (C0Y _ hL (by omega))) (by decide) (fun m1 Es2 v3 hle4 hR_=>?_)
 obtain⟨ys5,rfl,hx6,ho7⟩:=hR_
 refine v' 7 r'<|y' (A2j (k:=0) runUnderlying47 rfl rfl)<|v' 4 r' ?_
 refine lp3 (fun(k:Nat) (xq:List Value) (mm:Mem)=>L.length-k) (fun k xq mm=>mm) (fun k xq mm=>[row (v3) 128 4 (L).length (xq)]) (fun k xq mm=>[(3,v3),(8,v3),(9,J L.length),(10,J k)]) (fun k xq mm=>m1.le mm∧RdL mm xq L∧k≤L.length) 0 ys5 m1 ?_ ?_
 ·exact⟨Mem.le_refl _,hx6,Nat.zero_le _⟩
 rintro k xq mm ⟨hmm,hxq,hk⟩
 refine q' 2 r'<|c' (X.lss r' r') (fun h9=>?_) fun h9=>?_
 ·refine v' 11 r'<|y' (B0 0 k)<|P5 (B3R (k:=0) (i:=k) isAgg128 sizeOf128 rfl rfl rfl hxq (by omega)) (by decide) fun c10 hc11=>?_
  obtain⟨v12,rfl,hs13⟩:=hc11
  refine have hl14:=hs13.le;n' zeroValue128 r' fun b15=>v' 1 r'<|w' 0 r' r' r'<|v' 2 r' ?_
  have hhk_:=hh k (by omega)
  refine q' 3 r'<|f' r' t'<|b' 0 r' r' r' ?_
  refine C2 (J5 call164 rfl (A4F _ hs13 (by omega))) (by decide) (fun m16 Es17 v18 hle19 hR_=>?_)
  obtain⟨rfl,ho20⟩:=hR_
  refine have hxq:=hxq.mono hle19;y' (B0 2 k)<|f' r' t' ?_
  refine A4k 0 rfl rfl (by unfold C8;omega) (fun m21 hle22 hs23=>?_)
  replace hxq:=hxq.mono hle22
  refine C6j (B8P (k:=1) (i:=k) (off:=3) (us:=[v18]) (a:=gt L k) sizeOf126 rfl rfl (F4 hs23.one) rfl (Nat.zero_lt_succ _) rfl (A0W (by omega)) hxq (show 3+1≤4 from Nat.le_refl _) (fun vs_ ⟨_,h_,_⟩=>by subst h_;exact⟨_,rfl,hs23⟩) (A4 hs23.one C0)) (fun ys24 hx25=>?_)
  have he26:(L.set k (gt L k))=L:=C5Z (by omega)
  rw[he26]
  rw[he26]at hx25
  exact v' 8 r'<|X1 (k+1) ys24 m21<|⟨(Mem.le_trans hmm (Mem.le_trans hle19 hle22)),hx25,by omega⟩
 refine v' 12 r' ?_
 refine F7 (k:=0) rfl (fun ho_=>?_)
 refine v' 4 r' ?_
 refine A0 rfl rfl (fun w' hw'=>B8 (hw'.weaken (.cons_cons _ .slnil)) ?_)
 exact⟨_,rfl,hxq,ho_⟩
theorem B9v(m:Mem){v:Value}{l:List NoteT}(hl:Sl m v l):Pure prog 152 #[v] m (fun m' v=>∃b,v= .map (some b)∧MapM m' b NName (NoteV m')):=by
 refine have hll:=hl.le;H7 func152 r' ntmps152 fun wld=>q' 7 r' ?_
 refine O4 (W0 NName (NoteV m)) (by decide) (fun u_ m_ H_ hz_=>?_)
 obtain⟨hm_,b1,rfl,rfl⟩:=hz_
 replace hm_:=hm_.symm
 subst hm_
 refine v' 7 r'<|l' hl r'<|v' 4 r' ?_
 refine I0 (fun(k:Nat)=>l.length-k) (fun k=>[mapE b1 NName (NoteV m)]) (fun k=>[(3,.map (some b1)),(7,v),(8,J l.length),(9,J k)]) (fun k=>k≤l.length) 0 ?_ ?_
 ·exact Nat.zero_le _
 rintro k hF2
 refine have hk:=hF2;q' 2 r'<|c' (X.lss r' r') (fun h3=>?_) fun h3=>?_
 ·refine v' 10 r'<|x' k hl r' r' fun p4 hp5=>g' hp5 r' fun c6 hc7=>?_
  obtain⟨v8,v10,v12,v14,rfl,hs9,hs11,hs13,hs15⟩:=hc7
  exact have hl16:=hs9.le;have hl17:=hs11.le;have hl18:=hs13.le;have hl19:=hs15.le;n' zeroValue200 r' fun b20=>w' 0 r' r' r'<|v' 2 r'<|B4 5 [4] []<|U' 1 r'<|Y' r' r' (K4 0 r' r' r')<|Y' r' r' (X.call call154 rfl (H9 _ _ (gt l k) ⟨_,_,_,_,rfl,hs9,hs11,hs13,hs15⟩))<|Y' r' r' (K4 0 r' r' r')<|A0N r' r' r' (K1 (k:=(G4 ((gt l k)))) runUnderlying280 F5 rfl rfl rfl (show B2 _ 1=_ from rfl) ⟨_,(gt l k),rfl,⟨_,_,_,_,rfl,hs9,hs11,hs13,hs15⟩⟩)<|V' 7 r'<|G5 (k+1)<|by omega
 refine v' 10 r' ?_
 refine A4w 0 rfl rfl (fun m21 hle22 hM23=>?_)
 replace hM23:MapM m21 b1 NName (NoteV m21):=hM23.up (fun _ h_=>h_.mono (hle22))
 exact q' 6 r'<|A0 r' r'<|C5<|⟨_,rfl,hM23⟩
theorem C0Q(m:Mem){L:List NoteT}{p1 p2 p3:Addr}{b:Nat}{kinds:List Int}{Q:NoteT→Prop}(hp1:At m p1 L)(hp2:Cells m p2 [.map (some b)])(hM:MapM m b NName W6)(hp3:At m p3 kinds)(hQ:∀i,i<L.length→Q (gt L i)):B6X prog 231 [.pointer (some p1),.pointer (some p2),.pointer (some p3)] m L.length (B2y Q kinds):=by
 intro lo S HS I Ix s0 hmono hy h0
 refine G3 func231 r' ntmps231 fun wld=>q' 2 r'<|s' hp1 r' fun v1 hs2=>have hl3:=hs2.le;l' hs2 r'<|v' 4 r' ?_
 have hm0_:m.le m:=Mem.le_refl _
 refine lp (G:=Nat×Nat×Mem×S) (fun(k,i,mm,ss)=>L.length-k) (fun(k,i,mm,ss)=>mm) (fun(k,i,mm,ss)=>([]++HS ss)) (fun(k,i,mm,ss)=>[(0,.func (.yield lo) #[] #[]),(2,.pointer (some p2)),(3,.pointer (some (p3))),(7,v1),(8,J L.length),(9,J k)]) (fun(k,i,mm,ss)=>m.le mm∧I i mm ss∧i≤k∧k≤L.length) ((0,0,m,s0)) ?_ ?_
 ·exact⟨Mem.le_refl _,h0,Nat.le_refl _,Nat.zero_le _⟩
 rintro⟨k,i,mm,ss⟩ hF4
 obtain⟨hmm,hI,hik,hk⟩:=hF4
 refine have hp2:=hp2.mono hmm;have hp3:=hp3.mono hmm;have hM:=hM.mono hmm;have hs2:=hs2.mono hmm;q' 2 r'<|c' (X.lss r' r') (fun h5=>?_) fun h5=>?_
 ·refine v' 10 r'<|x' k hs2 r' r' fun p6 hp7=>g' hp7 r' fun c8 hc9=>?_
  obtain⟨v10,v12,v14,v16,rfl,hs11,hs13,hs15,hs17⟩:=hc9
  refine have hl18:=hs11.le;have hl19:=hs13.le;have hl20:=hs15.le;have hl21:=hs17.le;n' zeroValue200 r' fun b22=>w' 0 r' r' r'<|v' 4 r'<|B4 16 [] []<|Y' r' r' (T4 isAgg287 rfl hp2)<|Y' r' r' (K4 0 r' r' r')<|Y' r' r' (X.call call154 rfl (H9 _ _ (gt L k) ⟨_,_,_,_,rfl,hs11,hs13,hs15,hs17⟩))<|G9 r' r' (B1x (k:=(G4 ((gt L k)))) runUnderlying287 F5 zeroValue4 rfl rfl hM ⟨false,rfl⟩) (by decide) fun u23 hV24=>?_
  obtain⟨q25,rfl⟩:=hV24
  cases q25
  ·refine U' 1 r'<|S' hp3 r' r' r' fun v26 hs27=>have hl28:=hs27.le;Y' r' r' (A.l r' hs27)<|C' r' r' (X.gtr r' r') (fun h29=>?_) fun h29=>?_
   ·refine U' 1 r'<|S' hp3 r' r' r' fun v30 hs31=>have hl32:=hs31.le;Y' r' r' (A.f r')<|Y' r' r' (A.b 0 r' r' r')<|C' r' r' (X.call call232 rfl (B4H _ _ _ hs31 _)) (fun h33=>?_) fun h33=>?_
    ·refine U' 3 r'<|V' 7 r'<|a' 0 r' r' ?_
     refine A6o (T.yield (A:=[blk b22 200 [J ((gt L k).Clerk),J ((gt L k).Num),J ((gt L k).Clock),J ((gt L k).Day),J ((gt L k).Kind),J ((gt L k).Station),J ((gt L k).Week),J ((((gt L k).Sheet).Paper).Pitch),J ((((gt L k).Sheet).Paper).Height),J ((((gt L k).Sheet).Paper).Radius),J ((((gt L k).Sheet).Paper).Low),J ((((gt L k).Sheet).Paper).High),J ((((gt L k).Sheet).Paper).Columns),J (((((gt L k).Sheet).Paper).Along).Lo),J (((((gt L k).Sheet).Paper).Along).Hi),J (((((gt L k).Sheet).Paper).Across).Lo),J (((((gt L k).Sheet).Paper).Across).Hi),v10,v12,v14,v16,J ((((gt L k).Sheet).Pen).Band),J (((((gt L k).Sheet).Pen).Zero).Lo),J (((((gt L k).Sheet).Pen).Zero).Hi),J ((((gt L k).Sheet).Pen).Rate),J (((gt L k).Mark).Column),J ((((gt L k).Mark).Ticks).Lo),J ((((gt L k).Mark).Ticks).Hi),J (((gt L k).Read).Station),J (((gt L k).Read).Week),J (((gt L k).Read).Tick),J ((((gt L k).Read).Levels).Lo),J ((((gt L k).Read).Levels).Hi),J (((gt L k).Height).Week),J ((((gt L k).Height).Metres).Lo),J ((((gt L k).Height).Metres).Hi),J (((gt L k).Ref).Clerk),J (((gt L k).Ref).Num)]]) rfl rfl rfl (hy i _ _ _ (by omega) hmm ⟨_,(gt L k),rfl,⟨_,_,_,_,rfl,hs11,hs13,hs15,hs17⟩,hQ _ (by omega),(by first|exact .inl (by omega)|exact .inr (B2D (by assumption)))⟩ hI)) (by decide) (fun m2_ H2_ hT_=>?_) (fun m2_ H2_ hT_=>?_)
     ·obtain⟨hle2_,s2_,rfl,hI2_⟩:=hT_
      refine have hs11:=hs11.mono hle2_;have hs13:=hs13.mono hle2_;have hs15:=hs15.mono hle2_;have hs17:=hs17.mono hle2_;v' 12 r' ?_
      refine nx ((k+1,i+1,m2_,s2_)) ?_ ?_
      ·exact⟨Mem.le_trans hmm hle2_,hI2_,by omega,by omega⟩
      (dsimp only;omega)
     obtain⟨hle2_,s2_,rfl,hI2_⟩:=hT_
     refine have hs11:=hs11.mono hle2_;have hs13:=hs13.mono hle2_;have hs15:=hs15.mono hle2_;have hs17:=hs17.mono hle2_;v' 9 r' ?_
     refine F1 rfl (fun w' hw'=>B8 (hw'.weaken (.cons _ (.refl _))) ?_)
     exact⟨s2_,rfl,i+1,by omega,.inr hI2_⟩
    refine U' 3 r'<|V' 11 r' ?_
    refine nx ((k+1,i,mm,ss)) ?_ ?_
    ·exact⟨hmm,hI,by omega,by omega⟩
    (dsimp only;omega)
   refine U' 8 r'<|V' 7 r'<|a' 0 r' r' ?_
   refine A6o (T.yield (A:=[blk b22 200 [J ((gt L k).Clerk),J ((gt L k).Num),J ((gt L k).Clock),J ((gt L k).Day),J ((gt L k).Kind),J ((gt L k).Station),J ((gt L k).Week),J ((((gt L k).Sheet).Paper).Pitch),J ((((gt L k).Sheet).Paper).Height),J ((((gt L k).Sheet).Paper).Radius),J ((((gt L k).Sheet).Paper).Low),J ((((gt L k).Sheet).Paper).High),J ((((gt L k).Sheet).Paper).Columns),J (((((gt L k).Sheet).Paper).Along).Lo),J (((((gt L k).Sheet).Paper).Along).Hi),J (((((gt L k).Sheet).Paper).Across).Lo),J (((((gt L k).Sheet).Paper).Across).Hi),v10,v12,v14,v16,J ((((gt L k).Sheet).Pen).Band),J (((((gt L k).Sheet).Pen).Zero).Lo),J (((((gt L k).Sheet).Pen).Zero).Hi),J ((((gt L k).Sheet).Pen).Rate),J (((gt L k).Mark).Column),J ((((gt L k).Mark).Ticks).Lo),J ((((gt L k).Mark).Ticks).Hi),J (((gt L k).Read).Station),J (((gt L k).Read).Week),J (((gt L k).Read).Tick),J ((((gt L k).Read).Levels).Lo),J ((((gt L k).Read).Levels).Hi),J (((gt L k).Height).Week),J ((((gt L k).Height).Metres).Lo),J ((((gt L k).Height).Metres).Hi),J (((gt L k).Ref).Clerk),J (((gt L k).Ref).Num)]]) rfl rfl rfl (hy i _ _ _ (by omega) hmm ⟨_,(gt L k),rfl,⟨_,_,_,_,rfl,hs11,hs13,hs15,hs17⟩,hQ _ (by omega),(by first|exact .inl (by omega)|exact .inr (B2D (by assumption)))⟩ hI)) (by decide) (fun m2_ H2_ hT_=>?_) (fun m2_ H2_ hT_=>?_)
   ·obtain⟨hle2_,s2_,rfl,hI2_⟩:=hT_
    refine v' 12 r' ?_
    refine nx ((k+1,i+1,m2_,s2_)) ?_ ?_
    ·exact⟨Mem.le_trans hmm hle2_,hI2_,by omega,by omega⟩
    (dsimp only;omega)
   obtain⟨hle2_,s2_,rfl,hI2_⟩:=hT_
   refine v' 9 r' ?_
   refine F1 rfl (fun w' hw'=>B8 (hw'.weaken (.cons _ (.refl _))) ?_)
   exact⟨s2_,rfl,i+1,by omega,.inr hI2_⟩
  refine U' 12 r'<|V' 11 r' ?_
  refine nx ((k+1,i,mm,ss)) ?_ ?_
  ·exact⟨hmm,hI,by omega,by omega⟩
  (dsimp only;omega)
 refine v' 8 r' ?_
 refine D9 rfl (fun w' hw'=>B8 (hw'.weaken (.refl _)) ?_)
 exact⟨ss,rfl,i,by omega,.inl hI⟩
theorem A8u(m:Mem){v:Value}{l:List NoteT}(hl:Sl m v l){vk:Value}{kinds:List Int}(hk:Sl m vk kinds)(hn:l.length≤1000):Pure prog 153 #[v,vk] m (fun m' v=>∃lb n,v= .func (.func 231) #[] lb.toArray∧n≤l.length∧B6X prog 231 lb m' n (B2y (fun a=>a∈l) kinds)):=by
 refine H7 func153 r' ntmps153 fun wld=>q' 2 r'<|A1U (A4M (cs:=[vk]) rfl (F4 hk.one)) (by decide) fun b1=>v' 5 r' ?_
 refine O4 (W0 NName W6) (by decide) (fun u_ m_ H_ hz_=>?_)
 obtain⟨hm_,b2,rfl,rfl⟩:=hz_
 replace hm_:=hm_.symm
 subst hm_
 refine n' zeroValue287 r' fun b3=>I2 (T.storeB (k:=0) sizeOf287 rfl rfl rfl rfl (Nat.le_of_ble_eq_true rfl))<|v' 4 r'<|n' zeroValue52 r' fun b4=>v' 4 r'<|A0r 200 38<|q' 2 r'<|l' hl r'<|v' 4 r' ?_
 refine lp (G:=Nat×Value×List Value×List NoteT) (fun(i,vM,xM,M)=>l.length-i) (fun(i,vM,xM,M)=>m) (fun(i,vM,xM,M)=>[row (vM) 200 38 (M).length (xM),blk b4 52 [vM],blk b3 287 [.map (some b2)],mapE b2 NName W6,blk b1 27 [vk]]) (fun(i,vM,xM,M)=>[(3,Pt b1 0),(5,Pt b3 0),(6,Pt b4 0),(10,v),(11,J l.length),(12,J i)]) (fun(i,vM,xM,M)=>i≤l.length∧M.length≤i∧RdL m xM M∧∀a∈M,a∈l) ((0,Value.slice none 0 0,[],[])) ?_ ?_
 ·exact⟨Nat.zero_le _,Nat.le_refl _,RdL.nil,fun a ha=>by simp at ha⟩
 rintro⟨i,vM,xM,M⟩ hF5
 obtain⟨hi,hMl,hxM,hMm⟩:=hF5
 refine q' 2 r'<|c' (X.lss r' r') (fun h6=>?_) fun h6=>?_
 ·refine v' 10 r'<|x' i hl r' r' fun p7 hp8=>g' hp8 r' fun c9 hc10=>?_
  obtain⟨v11,v13,v15,v17,rfl,hs12,hs14,hs16,hs18⟩:=hc10
  refine have hl19:=hs12.le;have hl20:=hs14.le;have hl21:=hs16.le;have hl22:=hs18.le;n' zeroValue200 r' fun b23=>w' 0 r' r' r'<|v' 4 r'<|f' r' t'<|b' 0 r' r' r'<|c' (X.eql r' r') (fun h24=>?_) fun h24=>?_
  ·refine v' 4 r'<|b' 3 r' r' r'<|f' r' t'<|y' (J2 (k:=0) (vs:=[J (((gt l i).Ref).Clerk),J (((gt l i).Ref).Num)]) isAgg73 sizeOf73 rfl rfl rfl rfl)<|C6s (K1 (k:=((gt l i).Ref)) runUnderlying287 F5 rfl rfl rfl (show B2 _ 4=_ from rfl) ⟨_,rfl⟩)<|v' 8 r' ?_
   refine nx ((i+1,vM,xM,M)) ?_ ?_
   ·exact⟨by omega,by first|omega|(simp only[List.length_append,List.length_cons,List.length_nil];omega),hxM,hMm⟩
   (dsimp only;omega)
  refine v' 4 r'<|b' 2 r' r' r'<|a' 0 r' r'<|T6 (E6 C5l rfl rfl rfl (by decide)) (by decide) fun b25=>?_
  refine G2 (W4 (k:=1) (n':=(M++[gt l i]).length) C5l rfl rfl rfl rfl rfl (A4 rfl (A4 rfl (A4 rfl (A4 rfl (A4 rfl (A4 rfl (A4 rfl (A4 rfl (A4 rfl (A4 rfl (A4 rfl (A4 rfl (A4 rfl (A4 rfl (A4 rfl (A4 rfl (A4 rfl (A4 hs12.one (A4 hs14.one (A4 hs16.one (A4 hs18.one (A4 rfl (A4 rfl (A4 rfl (A4 rfl (A4 rfl (A4 rfl (A4 rfl (A4 rfl (A4 rfl (A4 rfl (A4 rfl (A4 rfl (A4 rfl (A4 rfl (A4 rfl (A4 rfl (A4 rfl C0)))))))))))))))))))))))))))))))))))))) (by simp) (by first|omega|(simp;omega)) (by first|omega|(simp;omega))) (by decide) (fun v26=>?_)
  have hx27:=X6 (a:=gt l i) hxM ⟨_,_,_,_,rfl,hs12,hs14,hs16,hs18⟩
  refine F7 (k:=1) rfl (fun ho28=>?_)
  refine I2 (T.storeB (k:=2) sizeOf52 rfl rfl rfl ho28 (Nat.le_of_ble_eq_true rfl))<|v' 8 r' ?_
  refine nx ((i+1,v26,xM++[J ((gt l i).Clerk),J ((gt l i).Num),J ((gt l i).Clock),J ((gt l i).Day),J ((gt l i).Kind),J ((gt l i).Station),J ((gt l i).Week),J ((((gt l i).Sheet).Paper).Pitch),J ((((gt l i).Sheet).Paper).Height),J ((((gt l i).Sheet).Paper).Radius),J ((((gt l i).Sheet).Paper).Low),J ((((gt l i).Sheet).Paper).High),J ((((gt l i).Sheet).Paper).Columns),J (((((gt l i).Sheet).Paper).Along).Lo),J (((((gt l i).Sheet).Paper).Along).Hi),J (((((gt l i).Sheet).Paper).Across).Lo),J (((((gt l i).Sheet).Paper).Across).Hi),v11,v13,v15,v17,J ((((gt l i).Sheet).Pen).Band),J (((((gt l i).Sheet).Pen).Zero).Lo),J (((((gt l i).Sheet).Pen).Zero).Hi),J ((((gt l i).Sheet).Pen).Rate),J (((gt l i).Mark).Column),J ((((gt l i).Mark).Ticks).Lo),J ((((gt l i).Mark).Ticks).Hi),J (((gt l i).Read).Station),J (((gt l i).Read).Week),J (((gt l i).Read).Tick),J ((((gt l i).Read).Levels).Lo),J ((((gt l i).Read).Levels).Hi),J (((gt l i).Height).Week),J ((((gt l i).Height).Metres).Lo),J ((((gt l i).Height).Metres).Hi),J (((gt l i).Ref).Clerk),J (((gt l i).Ref).Num)],M++[gt l i])) ?_ ?_
  ·exact⟨by omega,by first|omega|(simp only[List.length_append,List.length_cons,List.length_nil];omega),hx27,fun a ha=>by rcases List.mem_append.1 ha with h_|h_;exact hMm a h_;obtain rfl:=List.mem_singleton.1 h_;exact A2P (by omega)⟩
  (dsimp only;omega)
 refine v' 10 r' ?_
 refine B3J (Q:=fun a=>a∈l) (n:=38) (k:=0) (by decide) rfl rfl hxM hMm (fun RN_ hRl_ hG=>?_)
 refine q' 1 r'<|b' 1 r' r' r' ?_
 refine C2 (C3 (A:=[blk b4 52 [vM],blk b3 287 [.map (some b2)],mapE b2 NName W6,blk b1 27 [vk]]) call229 rfl (.refl _) (C6D _ (L:=RN_) (by omega) hG C3G)) (by decide) (fun m29 Es_ u_ hle30 hR_=>?_)
 obtain⟨rfl,R31,rfl,hR32⟩:=hR_
 refine have hk:=hk.mono hle30;have hG:=hG.mono hle30;have hR32l:=hR32.length_eq;have hG:=GoodL.perm hG hR32;v' 3 r' ?_
 refine B0m (Q:=fun a=>a∈l) (n:=38) (k:=0) (by decide) rfl rfl hG (fun L2 xs2 hL2 hx2 hq2=>?_)
 refine N4 0 rfl rfl hx2 (by unfold C8;omega) (fun m33 hle34 hs35=>?_)
 refine have hk:=hk.mono hle34;fz (α:=(List NoteT)) (x:=L2) 0 r' r' ⟨_,rfl,hs35⟩ fun m36 hle37 hp38=>have hk:=hk.mono hle37;fz (x:=kinds) 2 r' r' ⟨_,rfl,hk⟩ fun m39 hle40 hp41=>?_
 replace hp38:=hp38.mono hle40
 refine A4w 1 rfl rfl (fun m42 hle43 hM_=>?_)
 replace hp38:=hp38.mono hle43
 replace hp41:=hp41.mono hle43
 refine A0F 0 rfl rfl (fun m44 hle45 hp46=>?_)
 exact have hp38:=hp38.mono hle45;have hp41:=hp41.mono hle45;have hM_:=hM_.mono hle45;q' 1 r'<|y' (X.makeFunc (by intro x hx;simp at hx;rcases hx with rfl|rfl|rfl;all_goals exact⟨_,rfl⟩) rfl)<|v' 4 r'<|A0 r' r'<|C5<|⟨_,_,rfl,(by omega),C0Q _ (L:=L2) (kinds:=kinds) hp38 hp46 hM_ hp41 (fun i hi=>hq2 _ (A2P hi))⟩
end Go.Proofs.S10
namespace Go.Proofs.S10
open Tryz
set_option maxRecDepth 20000
open Go Go.Kx Go.Proofs.T10
theorem C7k{B:Base}{m:Mem}{H:List Ent}{w:World}(hw:St B m H w){j k b g n c off la ca lb cb:Nat}{T e':TypeId}{cs xs:List Value}{sz':Nat}(hb:B2 H j=some (blk b T cs))(hr:B2 H k=some (row (.slice (some ⟨g,0,none⟩) n c) e' sz' n xs))(hn:0<n)(hs:0<sz')(hjk:j≠k):
 (callFunc 322 ([.slice (some ⟨b,0,none⟩) la ca,.slice (some ⟨g,off,none⟩) lb cb]:List Value).toArray).run prog w= .ok (.value (.bool false)) w:=by
 show(callFunc 322 #[.slice (some ⟨b,0,none⟩) la ca,.slice (some ⟨g,off,none⟩) lb cb]).run prog w=_
 rw[run_callFunc_extern func322 (by kernel_rfl) (by kernel_rfl) (by kernel_rfl) (e:=Extern.SlicesOverlaps.overlaps #[126,126] #[4]) (by kernel_rfl)]
 rw[A9f hw underlying126 sizeOf198 hb hr hn hs (B7K hw hb hr hjk)]
 rfl
theorem B7m(s:Station):A3G [s]=A2d s:=by
 show(if A2d s≠0 then A2d s else 0)=A2d s
 split
 ·rfl
 ·rename_i h;exact(Decidable.of_not_not h).symm
theorem A4P(m:Mem){v:Value}{b tb:Nat}{L:List Height}{k:Nat}{ik:Int}(hik:ik=k)(hk:k≤L.length)(h0:0<L.length)(hL:L.length≤1000)(h:Height):Mut prog 293 #[v,J ik,.slice (some ⟨b,0,none⟩) 1 1] m [A5 v 198 L,blk b tb [J h.Week,J h.Metres.Lo,J h.Metres.Hi]] (fun _ Es u=>Es=[A5 u 198 (L.take k++h::L.drop k)]∧u.oneCell'=true):=by
 subst hik
 refine G3 func293 r' ntmps293 fun wld=>q' 1 r' ?_
 have hfl_:(flat L).length=L.length*3:=E7 L
 have hdl_:(flat (L.drop k)).length=(L.length-k)*3:=(by rw[E7,List.length_drop];rfl)
 have one3_:∀u∈([J h.Week,J h.Metres.Lo,J h.Metres.Hi]:List Value),u.oneCell'=true:=Flat.one h
 refine WK.form (k:=0) rfl h0 (fun g_ c_ hv_ hc_=>?_)
 subst hv_
 refine q' 8 r'<|y' (C3q k underlying126 sizeOf198 rfl rfl rfl hk)<|v' 5 r'<|y' (A7n runUnderlying126 rfl (q:=1) rfl)<|v' 16 r'<|y' (S5 (k:=0) runUnderlying126 rfl rfl)<|v' 8 r'<|c' (X.eql r' r') (fun h1=>?_) fun h1=>?_
 ·refine v' 7 r' ?_
  refine G2 (OpTo.perm (H':=[blk b tb [J h.Week,J h.Metres.Lo,J h.Metres.Hi],A5 (.slice (some ⟨g_,0,none⟩) L.length c_) 198 (L)]) (List.perm_middle (l₁:=[A5 (.slice (some ⟨g_,0,none⟩) L.length c_) 198 (L)]) (l₂:=[]) (a:=blk b tb [J h.Week,J h.Metres.Lo,J h.Metres.Hi])).symm (E2 (k:=0) (a:=h) A4W rfl rfl rfl rfl (by first|omega|(simp;done)|(simp;omega)) (by decide))) (by decide) (fun v2=>?_)
  refine F7 (k:=0) rfl (fun ho_=>?_)
  refine v' 5 r' ?_
  refine A0 rfl rfl (fun w' hw'=>B8 (hw'.weaken (.cons_cons _ .slnil)) ?_)
  refine⟨?_,ho_⟩
  rw[show k=L.length by omega,List.take_length,List.drop_length]
 refine v' 12 r'<|y' (X.cap runUnderlying126 rfl)<|c' (X.gtr r' r') (fun h3=>?_) fun h3=>?_
 ·refine v' 7 r'<|y' (B2V k underlying126 sizeOf198 rfl rfl rfl (by omega) (by omega))<|v' 5 r' ?_
  refine O4 (B9m (k:=0) A4W underlying3 (L.length+1-k) rfl rfl (by omega) rfl (by omega) (by omega) (by decide) (by omega) (by omega) (by omega) (N:=L.length+1) (by omega)) (by decide) (fun v_ m_ H_ hz_=>?_)
  obtain⟨rfl,g2_,c2_,zs,rfl,hc2_,hzl,rfl⟩:=hz_
  have hzl3_:zs.length=(L.length+1-k)*3:=hzl
  refine v' 7 r'<|y' (A3B k underlying126 sizeOf198 rfl rfl rfl (by omega) (by omega))<|v' 1 r' ?_
  have hln_:([Value.int .i64 h.Week,J h.Metres.Lo,J h.Metres.Hi]).length=min 1 ((L.length+1)-k)*3:=(by rw[show min 1 ((L.length+1)-k)=1 by omega];rfl)
  have hft_:k*3+([Value.int .i64 h.Week,J h.Metres.Lo,J h.Metres.Hi]).length≤((flat L).take (k*3)++zs).length:=(by rw[hln_];simp only[List.length_append,List.length_take,List.length_drop,hfl_,hdl_,hzl3_,List.length_cons,List.length_nil];omega)
  refine B7j (A2Y (k:=0) ([J h.Week,J h.Metres.Lo,J h.Metres.Hi]) underlying126 sizeOf198 rfl rfl rfl hln_ (fun B w hw=>A7S hw (k:=2) rfl) hft_ (by rw[hln_];omega) one3_) (by decide)<|v' 3 r'<|B4 9 [8] [8]<|U' 4 r'<|Y' r' r' (A3B (k+1) underlying126 sizeOf198 rfl rfl rfl (by omega) (by omega))<|U' 2 r'<|Y' r' r' (A3B k underlying126 sizeOf198 rfl rfl rfl (by omega) (by omega)) ?_
  have hln_:(flat (L.drop k)).length=min (L.length-k) ((L.length+1)-(k+1))*3:=(by rw[hdl_];congr 1;omega)
  have hft_:(k+1)*3+(flat (L.drop k)).length≤(((flat L).take (k*3)++zs).take (k*3)++[Value.int .i64 h.Week,J h.Metres.Lo,J h.Metres.Hi]++((flat L).take (k*3)++zs).drop (k*3+([Value.int .i64 h.Week,J h.Metres.Lo,J h.Metres.Hi]).length)).length:=(by rw[hln_];simp only[List.length_append,List.length_take,List.length_drop,hfl_,hdl_,hzl3_,List.length_cons,List.length_nil];omega)
  refine B6p r' r' r' r' (A2Y (k:=0) (flat (L.drop k)) underlying126 sizeOf198 rfl rfl rfl hln_ (B5G (k:=1) rfl (B2c hk)) hft_ (by rw[hln_];omega) (A4X _)) (by decide)<|V' 9 r' ?_
  refine A0 rfl rfl (fun w' hw'=>B8 (hw'.weaken (.cons_cons _ (.cons _ (.cons _ .slnil)))) ?_)
  exact⟨congrArg (fun e_=>[e_]) (B1f (A7P hk) (C1M hk hzl)),rfl⟩
 refine v' 11 r'<|y' (C5n (L.length+1) underlying126 sizeOf198 rfl rfl rfl (by omega) (by omega))<|v' 5 r' ?_
 refine B6r (k:=0) (h:=L.length+1) rfl (by omega) (by omega) (fun zs hzl=>?_)
 have hzl3_:zs.length=(L.length+1-L.length)*3:=hzl
 refine q' 6 r'<|y' (A3B (k+1) underlying126 sizeOf198 rfl rfl rfl (by omega) (by omega))<|y' (X.ext rfl (fun w_ hw_=>C7k hw_ (j:=1) (k:=0) rfl rfl (by omega) (by decide) (by decide)))<|v' 5 r'<|B4 9 [8] [8]<|U' 4 r'<|Y' r' r' (A3B (k+1) underlying126 sizeOf198 rfl rfl rfl (by omega) (by omega))<|U' 2 r'<|Y' r' r' (A3B k underlying126 sizeOf198 rfl rfl rfl (by omega) (by omega)) ?_
 have hln_:(flat (L.drop k)).length=min ((L.length+1)-k) ((L.length+1)-(k+1))*3:=(by rw[hdl_];congr 1;omega)
 have hft_:(k+1)*3+(flat (L.drop k)).length≤(flat L++zs).length:=(by rw[hln_];simp only[List.length_append,List.length_take,List.length_drop,hfl_,hdl_,hzl3_,List.length_cons,List.length_nil];omega)
 refine B6p r' r' r' r' (A2Y (k:=0) (flat (L.drop k)) underlying126 sizeOf198 rfl rfl rfl hln_ (B5G (k:=0) rfl (B6O hk)) hft_ (by rw[hln_];omega) (A4X _)) (by decide)<|V' 5 r'<|y' (A3B k underlying126 sizeOf198 rfl rfl rfl (by omega) (by omega))<|v' 1 r' ?_
 have hln_:([Value.int .i64 h.Week,J h.Metres.Lo,J h.Metres.Hi]).length=min 1 ((L.length+1)-k)*3:=(by rw[show min 1 ((L.length+1)-k)=1 by omega];rfl)
 have hft_:k*3+([Value.int .i64 h.Week,J h.Metres.Lo,J h.Metres.Hi]).length≤((flat L++zs).take ((k+1)*3)++flat (L.drop k)++(flat L++zs).drop ((k+1)*3+(flat (L.drop k)).length)).length:=(by rw[hln_];simp only[List.length_append,List.length_take,List.length_drop,hfl_,hdl_,hzl3_,List.length_cons,List.length_nil];omega)
 refine B7j (A2Y (k:=0) ([J h.Week,J h.Metres.Lo,J h.Metres.Hi]) underlying126 sizeOf198 rfl rfl rfl hln_ (fun B w hw=>A7S hw (k:=1) rfl) hft_ (by rw[hln_];omega) one3_) (by decide)<|v' 10 r' ?_
 refine A0 rfl rfl (fun w' hw'=>B8 (hw'.weaken (.cons_cons _ (.cons _ .slnil))) ?_)
 exact⟨congrArg (fun e_=>[e_]) (B1f (A7P hk) (B8Q hk hzl)),rfl⟩
theorem A6u{G:Prop}(h:G:=by exact⟨_,((Station.mk (0) (0) (0) ([]))),_,rfl,⟨_,rfl,.nil⟩,(by first|exact Nat.zero_le _|exact Nat.le_trans (Nat.le_of_eq hil_) (by omega)|omega|(dsimp only;omega))⟩):G:=h
theorem B6b(m:Mem)(cs:List Value)(s:Station)(hs:Enc.rd m cs s)(ch:List Value)(h:Height)(hh:Enc.rd m ch h):Pure prog 235 #[.agg cs.toArray,.agg ch.toArray] m (fun m' v=>∃(r0:List Value) (x0:Station) (z1:Int),v= .tuple #[.agg r0.toArray,J z1]∧Enc.rd m' r0 x0∧x0.Heights.length≤1000):=by
 obtain⟨v1,rfl,hs2⟩:=hs
 have hl3:=hs2.le
 obtain rfl:=hh
 refine have hal:=B7m s;H7 func235 r' ntmps235 fun wld=>q' 2 r'<|o' r' r' fun b4=>o' r' r' fun b5=>n' zeroValue128 r' fun b6=>v' 6 r'<|a' 2 r' r' ?_
 refine D1 (L5 (α:=Station) (vals:=[.agg [J s.ID,J s.X,J s.Y,v1].toArray]) (L:=[s]) A6R rfl (.cons rfl ⟨_,rfl,hs2⟩ .nil) rfl rfl) (by decide) (fun m7 v8 hle9 hs10=>?_)
 refine have hs2:=hs2.mono hle9;y' (X.call call292 rfl (C1O _ _ _ hs10))<|v' 6 r'<|e' (X.neq r' r') (fun h11=>?_) fun h11=>?_
 ·refine v' 5 r'<|WL.x (V:=Value.agg [J 0,J 0,J 0,S0].toArray) (X.build zeroValue128 runUnderlying128 (A7L _ underlying128) rfl rfl) (by decide) ?_
  exact v' 1 r'<|w' 0 r' r' r'<|v' 5 r'<|F2 0 r' r' r' r' isAgg128 sizeOf128<|C5<|A6u
 refine v' 6 r' ?_
 have hone:=B9s (s:=s) (by omega)
 refine have hhl:=hone.2.1;q' 6 r' ?_
 refine I0 (fun(k:Nat)=>s.Heights.length-k) (fun k=>[blk b6 128 [J 0,J 0,J 0,S0],blk b5 198 [J h.Week,J h.Metres.Lo,J h.Metres.Hi],blk b4 128 [J s.ID,J s.X,J s.Y,v1]]) (fun k=>[(2,Pt b4 0),(3,Pt b5 0),(4,Pt b6 0),(7,J k)]) (fun k=>k≤s.Heights.length) 0 ?_ ?_
 ·exact Nat.zero_le _
 rintro k hF12
 refine have hk:=hF12;q' 2 r'<|B4 16 [] []<|U' 1 r'<|Y' r' r' (A.f r')<|Y' r' r' (A.b 2 r' r' r')<|Y' r' r' (A.l r' hs2)<|C' r' r' (X.lss r' r') (fun h13=>?_) fun h13=>?_
 ·refine U' 1 r'<|Y' r' r' (A.f r')<|Y' r' r' (A.b 2 r' r' r')<|U' 1 r'<|X' k hs2 r' r' r' r' fun p14 hp15=>have hp16:=A3g hp15;Y' r' r' (A.f r')<|Y' r' r' (A.i r' hp16)<|Y' r' r' (A.f r')<|Y' r' r' (A.b 1 r' r' r')<|C' r' r' (X.lss r' r') (fun h17=>?_) fun h17=>?_
  ·exact U' 1 r'<|V' 12 r'<|G5 (k+1)<|by omega
  refine U' 1 r'<|V' 7 r' ?_
  refine cu2 (fun(m18:Mem) (v26:Value)=>m18) (fun m18 v26=>[A5 (v26) 198 (s.Heights.take k++h::s.Heights.drop k),blk b6 128 [J 0,J 0,J 0,S0],blk b5 198 [J h.Week,J h.Metres.Lo,J h.Metres.Hi],blk b4 128 [J s.ID,J s.X,J s.Y,v26]]) (fun m18 v26=>[(2,Pt b4 0),(4,Pt b6 0)]) (fun m18 v26=>m7.le m18) ?_ ?_
  ·refine K7 (π:=sq [0,1,3,4] (.fork (sq [2,5,6,7,8] .done) (sq [5,2,6,7,8] .done))) [2,5,6,8] [6,8] r' (by kernel_rfl)<|Y' r' r' (A.f r')<|Y' r' r' (A.b 2 r' r' r')<|U' 1 r'<|Y' r' r' (K4 1 r' r' r') ?_
   refine DW.fork (List.cons_ne_nil _ _) ?_ ?_
   ·refine A3m rfl rfl rfl (J5 call164 rfl (A4F _ hs2 (by omega))) (by decide) (fun m19 Es20 v21 hle22 hR_=>?_)
    obtain⟨rfl,ho23⟩:=hR_
    refine have hs2:=hs2.mono hle22;P4 r' r' r' (E6 A4W rfl rfl rfl (by decide)) (by decide) fun b24=>?_
    refine A1T rfl rfl rfl rfl (I3 [1,0] call293 r' (A4P _ (L:=s.Heights) (k:=k) (by omega) (by omega) (by omega) (by omega) h)) (by decide) (fun m25 Es_ v27 hle26 hR_=>?_)
    obtain⟨rfl,ho28⟩:=hR_
    exact have hs2:=hs2.mono hle26;Y' r' r' (A.f r')<|B3 r' r' r' r' (T.storeB (k:=3) sizeOf126 rfl rfl rfl ho28 (Nat.le_of_ble_eq_true rfl))<|V' 1 r'<|mt2 m25 v27<|Mem.le_trans hle22 hle26
   refine P4 rfl rfl rfl (E6 A4W rfl rfl rfl (by decide)) (by decide) fun b29=>?_
   refine A3m rfl rfl rfl (J5 call164 rfl (A4F _ hs2 (by omega))) (by decide) (fun m30 Es31 v32 hle33 hR_=>?_)
   obtain⟨rfl,ho34⟩:=hR_
   replace hs2:=hs2.mono hle33
   refine A1T rfl rfl rfl rfl (C3 (A:=[blk b6 128 [J 0,J 0,J 0,S0],blk b5 198 [J h.Week,J h.Metres.Lo,J h.Metres.Hi],blk b4 128 [J s.ID,J s.X,J s.Y,v1]]) call293 rfl (.refl _) (A4P _ (L:=s.Heights) (k:=k) (by omega) (by omega) (by omega) (by omega) h)) (by decide) (fun m35 Es_ v37 hle36 hR_=>?_)
   obtain⟨rfl,ho38⟩:=hR_
   exact have hs2:=hs2.mono hle36;Y' r' r' (A.f r')<|B3 r' r' r' r' (T.storeB (k:=3) sizeOf126 rfl rfl rfl ho38 (Nat.le_of_ble_eq_true rfl))<|V' 1 r'<|mt2 m35 v37<|Mem.le_trans hle33 hle36
  rintro m18 v26 hle39
  refine have hs2:=hs2.mono hle39;q' 2 r' ?_
  have hil_:(s.Heights.take k++h::s.Heights.drop k).length=s.Heights.length+1:=(A7P (by omega)).symm
  refine q' 1 r'<|f' r' t'<|b' 3 r' r' r' ?_
  refine A4k 0 rfl rfl (by unfold C8;omega) (fun m40 hle41 hs42=>?_)
  refine have hs2:=hs2.mono hle41;c' (X.call call171 rfl (A7Q _ _ _ hs42)) (fun h43=>?_) fun h43=>?_
  ·exact v' 8 r'<|a' 2 r' r'<|w' 0 r' r' r'<|v' 4 r'<|F2 0 r' r' r' r' isAgg128 sizeOf128<|C5<|⟨_,((Station.mk (s.ID) (s.X) (s.Y) (s.Heights.take k++h::s.Heights.drop k))),_,rfl,⟨_,rfl,hs42⟩,(by first|exact Nat.zero_le _|exact Nat.le_trans (Nat.le_of_eq hil_) (by omega)|omega|((try dsimp only);omega))⟩
  refine v' 6 r'<|WL.x (V:=Value.agg [J 0,J 0,J 0,S0].toArray) (X.build zeroValue128 runUnderlying128 (A7L _ underlying128) rfl rfl) (by decide) ?_
  exact w' 0 r' r' r'<|v' 5 r'<|F2 0 r' r' r' r' isAgg128 sizeOf128<|C5<|A6u
 refine U' 11 r'<|V' 7 r' ?_
 refine cu2 (fun(m44:Mem) (v52:Value)=>m44) (fun m44 v52=>[A5 (v52) 198 (s.Heights.take k++h::s.Heights.drop k),blk b6 128 [J 0,J 0,J 0,S0],blk b5 198 [J h.Week,J h.Metres.Lo,J h.Metres.Hi],blk b4 128 [J s.ID,J s.X,J s.Y,v52]]) (fun m44 v52=>[(2,Pt b4 0),(4,Pt b6 0)]) (fun m44 v52=>m7.le m44) ?_ ?_
 ·refine K7 (π:=sq [0,1,3,4] (.fork (sq [2,5,6,7,8] .done) (sq [5,2,6,7,8] .done))) [2,5,6,8] [6,8] r' (by kernel_rfl)<|Y' r' r' (A.f r')<|Y' r' r' (A.b 2 r' r' r')<|U' 1 r'<|Y' r' r' (K4 1 r' r' r') ?_
  refine DW.fork (List.cons_ne_nil _ _) ?_ ?_
  ·refine A3m rfl rfl rfl (J5 call164 rfl (A4F _ hs2 (by omega))) (by decide) (fun m45 Es46 v47 hle48 hR_=>?_)
   obtain⟨rfl,ho49⟩:=hR_
   refine have hs2:=hs2.mono hle48;P4 r' r' r' (E6 A4W rfl rfl rfl (by decide)) (by decide) fun b50=>?_
   refine A1T rfl rfl rfl rfl (I3 [1,0] call293 r' (A4P _ (L:=s.Heights) (k:=k) (by omega) (by omega) (by omega) (by omega) h)) (by decide) (fun m51 Es_ v53 hle52 hR_=>?_)
   obtain⟨rfl,ho54⟩:=hR_
   exact have hs2:=hs2.mono hle52;Y' r' r' (A.f r')<|B3 r' r' r' r' (T.storeB (k:=3) sizeOf126 rfl rfl rfl ho54 (Nat.le_of_ble_eq_true rfl))<|V' 1 r'<|mt2 m51 v53<|Mem.le_trans hle48 hle52
  refine P4 rfl rfl rfl (E6 A4W rfl rfl rfl (by decide)) (by decide) fun b55=>?_
  refine A3m rfl rfl rfl (J5 call164 rfl (A4F _ hs2 (by omega))) (by decide) (fun m56 Es57 v58 hle59 hR_=>?_)
  obtain⟨rfl,ho60⟩:=hR_
  refine A1T rfl rfl rfl rfl (C3 (A:=[blk b6 128 [J 0,J 0,J 0,S0],blk b5 198 [J h.Week,J h.Metres.Lo,J h.Metres.Hi],blk b4 128 [J s.ID,J s.X,J s.Y,v1]]) call293 rfl (.refl _) (A4P _ (L:=s.Heights) (k:=k) (by omega) (by omega) (by omega) (by omega) h)) (by decide) (fun m61 Es_ v63 hle62 hR_=>?_)
  obtain⟨rfl,ho64⟩:=hR_
  exact Y' r' r' (A.f r')<|B3 r' r' r' r' (T.storeB (k:=3) sizeOf126 rfl rfl rfl ho64 (Nat.le_of_ble_eq_true rfl))<|V' 1 r'<|mt2 m61 v63<|Mem.le_trans hle59 hle62
 rintro m44 v52 hle65
 refine q' 2 r' ?_
 have hil_:(s.Heights.take k++h::s.Heights.drop k).length=s.Heights.length+1:=(A7P (by omega)).symm
 refine q' 1 r'<|f' r' t'<|b' 3 r' r' r' ?_
 refine A4k 0 rfl rfl (by unfold C8;omega) (fun m66 hle67 hs68=>?_)
 refine c' (X.call call171 rfl (A7Q _ _ _ hs68)) (fun h69=>?_) fun h69=>?_
 ·exact v' 8 r'<|a' 2 r' r'<|w' 0 r' r' r'<|v' 4 r'<|F2 0 r' r' r' r' isAgg128 sizeOf128<|C5<|⟨_,((Station.mk (s.ID) (s.X) (s.Y) (s.Heights.take k++h::s.Heights.drop k))),_,rfl,⟨_,rfl,hs68⟩,(by first|exact Nat.zero_le _|exact Nat.le_trans (Nat.le_of_eq hil_) (by omega)|omega|((try dsimp only);omega))⟩
 refine v' 6 r'<|WL.x (V:=Value.agg [J 0,J 0,J 0,S0].toArray) (X.build zeroValue128 runUnderlying128 (A7L _ underlying128) rfl rfl) (by decide) ?_
 exact w' 0 r' r' r'<|v' 5 r'<|F2 0 r' r' r' r' isAgg128 sizeOf128<|C5<|A6u
end Go.Proofs.S10
