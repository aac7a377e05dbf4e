import Derived.Test.YtooomcigmleneaaGreatT10W7
import Derived.Test.YtooomcigmleneaaGreatT10SSpec2
set_option linter.all false
set_option maxHeartbeats 8000000
namespace Go.Proofs.T10
open Tryz Go Go.Kx
set_option maxRecDepth 20000
theorem A2a(m:Mem){b0:Nat}{z:Int}(hpz:CO z):Mut prog 307 #[Pt b0 0] m [blk b0 439 [.int .u64 z]] (fun _ Es u=>∃r:Int,u= .int .u64 r∧Es=[blk b0 439 [.int .u64 r]]∧CO r):=by
 exact G3 func307 O ntmps307 fun f=>q' 6 O<|B9 10 [9] [9]<|U' 2 O<|Z O O (A.b 0 O O O)<|U' 2 O<|Z O O (A.b 0 O O O)<|J0 O O (A5K rfl rfl (by decide)) (by decide) fun p g=>J0 O O (QQ rfl rfl) (by decide) fun q c=>U' 1 O<|B4 O O O O (C1 (k:=0) sizeOf439 rfl rfl rfl rfl (J' rfl))<|V' 2 O<|B9 10 [9] [9]<|U' 2 O<|Z O O (A.b 0 O O O)<|U' 2 O<|Z O O (A.b 0 O O O)<|J0 O O (B4v rfl rfl (by decide) c) (by decide) fun s l=>J0 O O (QQ rfl rfl) (by decide) fun t n=>U' 1 O<|B4 O O O O (C1 (k:=0) sizeOf439 rfl rfl rfl rfl (J' rfl))<|V' 2 O<|B9 10 [9] [9]<|U' 2 O<|Z O O (A.b 0 O O O)<|U' 2 O<|Z O O (A.b 0 O O O)<|J0 O O (A5K rfl rfl (by decide)) (by decide) fun v d=>J0 O O (QQ rfl rfl) (by decide) fun o a=>U' 1 O<|B4 O O O O (C1 (k:=0) sizeOf439 rfl rfl rfl rfl (J' rfl))<|V' 5 O<|b' 0 O O O<|U 4 O<|A0 O O<|I2<|⟨_,rfl,rfl,a⟩
theorem B2A(m:Mem){z:Int}(hz:0≤z∧z≤4294967295):Pure prog 273 #[.int .u64 z] m (fun _ u=>∃r:Nat,u=J r∧r≤32∧(1≤z→(2:Int)^r≤2*z)):=by
 refine F6 func273 O ntmps273 fun p=>q' 9 O<|y' (OpX.f (X.geq rfl rfl) (by omega))<|U 9 O<|c' (X.geq O O) (fun q=>?_) fun q=>?_
 ·refine U 6 O<|y' (Ro 65536 rfl rfl (by decide) (by decide))<|U 13 O<|c' (X.geq O O) (fun s=>?_) fun s=>?_
  ·refine U 6 O<|y' (Ro 256 rfl rfl (by decide) (by decide))<|U 13 O<|y' (O8 runUnderlying410 runUnderlying5 rfl (Fw (by omega) (by omega)))<|Q9 (Ga 256 OI runUnderlying9 rfl rfl (by kernel_rfl) (by kernel_rfl) (by omega) (by omega)) (by decide) fun t g=>?_
   obtain⟨b,a⟩:=JN g.1
   exact y' (O8 runUnderlying5 runUnderlying3 rfl (P7 (by omega) (by omega)))<|U 5 O<|A0 O O<|C2<|⟨24+t,B0 (by omega),by omega,fun k=>Oj 24 (c:=16777216) (by decide) (x:=(z/65536)/256) (by have h1_:=a (by omega);have h2_:((((z/65536)/256:Int).toNat:Nat):Int)=(z/65536)/256:=(by omega);rw[h2_]at h1_;exact h1_) (by omega) (by omega)⟩
  refine U 9 O<|y' (O8 runUnderlying410 runUnderlying5 rfl (Fw (by omega) (by omega)))<|Q9 (Ga 256 OI runUnderlying9 rfl rfl (by kernel_rfl) (by kernel_rfl) (by omega) (by omega)) (by decide) fun v l=>?_
  obtain⟨b,a⟩:=JN l.1
  exact y' (O8 runUnderlying5 runUnderlying3 rfl (P7 (by omega) (by omega)))<|U 5 O<|A0 O O<|C2<|⟨16+v,B0 (by omega),by omega,fun k=>Oj 16 (c:=65536) (by decide) (x:=z/65536) (by have h1_:=a (by omega);have h2_:(((z/65536:Int).toNat:Nat):Int)=z/65536:=(by omega);rw[h2_]at h1_;exact h1_) (by omega) (by omega)⟩
 refine U 9 O<|c' (X.geq O O) (fun w=>?_) fun w=>?_
 ·refine U 6 O<|y' (Ro 256 rfl rfl (by decide) (by decide))<|U 13 O<|y' (O8 runUnderlying410 runUnderlying5 rfl (Fw (by omega) (by omega)))<|Q9 (Ga 256 OI runUnderlying9 rfl rfl (by kernel_rfl) (by kernel_rfl) (by omega) (by omega)) (by decide) fun y n=>?_
  obtain⟨b,a⟩:=JN n.1
  exact y' (O8 runUnderlying5 runUnderlying3 rfl (P7 (by omega) (by omega)))<|U 5 O<|A0 O O<|C2<|⟨8+y,B0 (by omega),by omega,fun k=>Oj 8 (c:=256) (by decide) (x:=z/256) (by have h1_:=a (by omega);have h2_:(((z/256:Int).toNat:Nat):Int)=z/256:=(by omega);rw[h2_]at h1_;exact h1_) (by omega) (by omega)⟩
 refine U 9 O<|y' (O8 runUnderlying410 runUnderlying5 rfl (Fw (by omega) (by omega)))<|Q9 (Ga 256 OI runUnderlying9 rfl rfl (by kernel_rfl) (by kernel_rfl) (by omega) (by omega)) (by decide) fun o d=>?_
 obtain⟨b,a⟩:=JN d.1
 exact y' (O8 runUnderlying5 runUnderlying3 rfl (P7 (by omega) (by omega)))<|U 5 O<|A0 O O<|C2<|⟨o,B0 (by omega),by omega,fun k=>by have h1_:=a (by omega);have h2_:(((z:Int).toNat:Nat):Int)=z:=(by omega);rw[h2_]at h1_;exact h1_⟩
theorem NR(m:Mem){z:Int}(hz:0≤z∧z≤4294967295):Pure prog 225 #[.int .u64 z] m (fun _ u=>∃r:Nat,u=J r∧r≤32∧(1≤z→(2:Int)^r≤2*z)):=by
 refine F6 func225 O ntmps225 fun f=>q' 12 O ?_
 refine C0 (T.call call273 rfl (B2A _ (z:=z) (by omega))) (by decide) (fun g _ d a=>?_)
 obtain⟨k,rfl,b,c⟩:=a
 exact U 4 O<|A0 O O<|C2<|⟨_,rfl,b,c⟩
theorem A5A(m:Mem){z:Int}(hz:1≤z∧z≤4000000000):Pure prog 306 #[J z] m (fun _ u=>∃M:Int,u= .int .u64 M∧1≤M∧M≤2*z):=by
 refine F6 func306 O ntmps306 fun f=>q' 8 O<|y' (O8 runUnderlying3 runUnderlying358 rfl (U2 (by omega) (by omega))) ?_
 refine C0 (T.call call225 rfl (NR _ (z:=z) (by omega))) (by decide) (fun l _ c a=>?_)
 obtain⟨d,rfl,k,b⟩:=a
 refine y' (A9m (r:=d) rfl rfl (by omega))<|U 4 O<|A0 O O<|C2 ?_
 refine⟨_,rfl,?_,b hz.1⟩
 have g:(0:Int)<2^d:=Int.pow_pos (by decide)
 omega
theorem A7E(m:Mem){v:Value}{L:List Span}(hL:L.length≤4000000000)(hB:Cz L){fc:Nat}{cf:Span→Span→Int}(hC:CmpOk fc cf){a b:Nat}{za zb:Int}(hza:za=a)(hzb:zb=b)(hab:a+12<b)(hbl:b≤L.length):Mut prog 266 #[v,J za,J zb,Fc fc] m [A5 v 23 L] (fun _ Es u=>u= .tuple #[]∧∃R,Es=[A5 v 23 R]∧Seg L R a b):=by
 subst hza
 subst hzb
 refine G3 func266 O ntmps266 fun M=>q' 9 O ?_
 obtain⟨f,y⟩:∃qq__:Nat,(↑b-↑a:Int)=(qq__:Int):=⟨(↑b-↑a:Int).toNat,(by omega)⟩
 rw[y]
 refine q' 2 O<|y' (OpX.t (X.geq rfl rfl) (by omega))<|U 6 O<|y' (O8 runUnderlying3 runUnderlying439 rfl (U2 (by omega) (by omega)))<|n' zeroValue439 O fun H=>G7 (C1 (k:=0) sizeOf439 rfl rfl rfl rfl (J' rfl))<|U 5 O ?_
 refine C0 (T.call call306 rfl (A5A _ (z:=(↑f:Int)) (by omega))) (by decide) (fun Y _ I q=>?_)
 obtain⟨S,rfl,V,W⟩:=q
 refine U 7 O<|y' (X.quo rfl rfl (by omega) (by omega) (by omega))<|y' (X.mul rfl rfl (by omega) (by omega))<|U 6 O ?_
 obtain⟨G,B⟩:∃qq__:Nat,((↑a+((↑f/4)*2))-1:Int)=(qq__:Int):=⟨((↑a+((↑f/4)*2))-1:Int).toNat,(by omega)⟩
 rw[B]
 refine Di (fun(x:Nat) (w:Int) (R:List Span)=>b+2-x) (fun x w R=>[blk H 439 [.int .u64 (w)],A5 (v) 23 (R)]) (fun x w R=>[(0,v),(1,J a),(8,J f),(9,Pt H 0),(10,.int .u64 (S)),(11,J x)]) (fun x w R=>(a≤x∧(x:Int)≤a+(f:Int)/4*2+2)∧CO w∧Seg L R a b) G (↑f) L ?_ ?_
 ·exact⟨by omega,by unfold CO;omega,.refl _ _ _⟩
 rintro x w R ⟨hx,C,hS⟩
 refine N5 (fun g=>?_)
 refine have Q:=hS.len;have hBR:=K8 hB hS.perm;q' 6 O<|y' (X.quo rfl rfl (by omega) (by omega) (by omega))<|y' (X.mul rfl rfl (by omega) (by omega))<|U 2 O<|c' (X.leq O O) (fun N=>?_) fun N=>?_
 ·refine U 9 O ?_
  refine C5 (C8 (A:=[A5 (v) 23 (R)]) call307 rfl (.refl _) (A2a _ (z:=w) C)) (by decide) (fun m9 P u_ l q=>?_)
  obtain⟨D,rfl,rfl,p⟩:=q
  refine U 1 O<|y' (A5y rfl rfl (by omega) (by omega))<|Q9 (A4N rfl rfl (by unfold CO;omega)) (by decide) fun o K=>y' (O8 runUnderlying358 runUnderlying3 rfl (P7 (by omega) (by omega)))<|U 8 O<|c' (X.geq O O) (fun E=>?_) fun E=>?_
  ·refine U 9 O ?_
   obtain⟨c,ho1_⟩:∃qq__:Nat,(o-↑f:Int)=(qq__:Int):=⟨(o-↑f:Int).toNat,(by omega)⟩
   rw[ho1_]
   refine E2<|B9 20 [17,19] [17,19,100005]<|U' 5 O<|J2 O O O (fun _ _ s=>(X.add rfl rfl (by omega) (by omega))) (by decide)<|U' 4 O<|Z O O (A9 1 (a+c))<|Z O O (A.fs 1 (a+c) 0 [J (((gt R (a+c))).Lo),J (((gt R (a+c))).Hi)] O O O O)<|U' 2 O<|Z O O (A9 1 x)<|Z O O (A.fs 1 (x) 0 [J (((gt R x)).Lo),J (((gt R x)).Hi)] O O O O)<|Z O O (A9 1 x)<|B4 O O O O (D3 (k:=1) (i:=x) (off:=0) (us:=[J (((gt R (a+c))).Lo),J (((gt R (a+c))).Hi)]) (gt R (a+c)) sizeOf23 rfl rfl rfl rfl (O' _) rfl (by first|omega|(simp;omega)|simp) rfl rfl (A4 rfl (A4 rfl C6)))<|Z O O (A9 1 (a+c))<|B4 O O O O (D3 (k:=1) (i:=a+c) (off:=0) (us:=[J (((gt R x)).Lo),J (((gt R x)).Hi)]) (gt R x) sizeOf23 rfl rfl rfl rfl (O' _) rfl (by first|omega|(simp;omega)|simp) rfl rfl (A4 rfl (A4 rfl C6)))<|V' 8 O ?_
   obtain⟨r,n⟩:∃qq__:Nat,(↑x+1:Int)=(qq__:Int):=⟨(↑x+1:Int).toNat,(by omega)⟩
   rw[n]
   exact G9 g l<|O7 r D ((R.set x (gt R (a+c))).set (a+c) (gt R x))<|⟨by omega,p,hS.tsw (by omega) (by omega) (by omega)⟩
  refine U 5 O ?_
  obtain⟨d,ho2_⟩:∃qq__:Nat,(o:Int)=(qq__:Int):=⟨(o:Int).toNat,(by omega)⟩
  rw[ho2_]
  refine B9 20 [17,19] [17,19,100005]<|U' 5 O<|J2 O O O (fun _ _ s=>(X.add rfl rfl (by omega) (by omega))) (by decide)<|U' 4 O<|Z O O (A9 1 (a+d))<|Z O O (A.fs 1 (a+d) 0 [J (((gt R (a+d))).Lo),J (((gt R (a+d))).Hi)] O O O O)<|U' 2 O<|Z O O (A9 1 x)<|Z O O (A.fs 1 (x) 0 [J (((gt R x)).Lo),J (((gt R x)).Hi)] O O O O)<|Z O O (A9 1 x)<|B4 O O O O (D3 (k:=1) (i:=x) (off:=0) (us:=[J (((gt R (a+d))).Lo),J (((gt R (a+d))).Hi)]) (gt R (a+d)) sizeOf23 rfl rfl rfl rfl (O' _) rfl (by first|omega|(simp;omega)|simp) rfl rfl (A4 rfl (A4 rfl C6)))<|Z O O (A9 1 (a+d))<|B4 O O O O (D3 (k:=1) (i:=a+d) (off:=0) (us:=[J (((gt R x)).Lo),J (((gt R x)).Hi)]) (gt R x) sizeOf23 rfl rfl rfl rfl (O' _) rfl (by first|omega|(simp;omega)|simp) rfl rfl (A4 rfl (A4 rfl C6)))<|V' 8 O ?_
  obtain⟨r,n⟩:∃qq__:Nat,(↑x+1:Int)=(qq__:Int):=⟨(↑x+1:Int).toNat,(by omega)⟩
  rw[n]
  exact G9 g l<|O7 r D ((R.set x (gt R (a+d))).set (a+d) (gt R x))<|⟨by omega,p,hS.tsw (by omega) (by omega) (by omega)⟩
 refine U 7 O ?_
 refine D0 rfl (fun w' F=>B3 (F.weaken (.cons _ (.cons_cons _ .slnil))) ?_)
 exact⟨rfl,_,rfl,hS⟩
def A7H(k:Nat):Prop:=∀(m:Mem) {v:Value} {L:List Span} {a b:Nat} {ia ib il:Int} {fc:Nat} {cf:Span→Span→Int} (_:L.length≤4000000000) (_:Cz L) (_:CmpOk fc cf) (_:ia=a) (_:ib=b) (_:b-a=k) (_:a≤b) (_:b≤L.length) (_:0≤il∧il≤1000) (_:Lb Span.Lo L a b),
 Mut prog 224 #[v,J ia,J ib,J il,Fc fc] m [A5 v 23 L] (fun _ Es u=>u= .tuple #[]∧∃R,Es=[A5 v 23 R]∧Seg L R a b∧Srt Span.Lo R a b)
theorem DQ{G:Prop}(h:G:=by exact⟨fun h_=>by first|(cases h_;done)|exact⟨by omega,Sv h_⟩|exact⟨by omega,by assumption⟩,fun h_ hn_=>by first|(cases h_;done)|exact absurd hn_.2 (Th h_)|omega|exact absurd hn_.2 ‹_›⟩):G:=h
theorem A0O(k:Nat)(ih:∀q,q<k→A7H q):A7H k:=by
 intro m v L a b ia ib il fc cf hL hB hC e8 e9 hk g9 h0 h1 f0
 subst e8 e9
 refine G3 func224 O ntmps224 fun f9=>q' 11 O ?_
 refine lp (G:=Nat×Nat×Int×Bool×Bool×List Span) (fun(x,y,l,wb,wp,R)=>y-x) (fun(x,y,l,wb,wp,R)=>m) (fun(x,y,l,wb,wp,R)=>[A5 (v) 23 (R)]) (fun(x,y,l,wb,wp,R)=>[(0,v),(1,J x),(2,J y),(3,J l),(4,Fc fc),(10,.bool (wb)),(11,.bool (wp))]) (fun(x,y,l,wb,wp,R)=>(a≤x∧x≤y∧y≤b)∧(0≤l∧l≤1000)∧Seg L R a b∧Out Span.Lo R a b x y) ((a,b,il,true,true,L)) ?_ ?_
 ·exact⟨by omega,by omega,.refl _ _ _,.start _ _ _⟩
 rintro⟨x,y,l,wb,wp,R⟩ c0
 conv=>enter [7];dsimp only
 conv=>enter [8];dsimp only
 try dsimp only at c0
 obtain⟨g7,hl,hS,hO⟩:=c0
 refine N5 (fun o=>?_)
 have g6:=hS.len
 have hBR:=K8 hB hS.perm
 have S:=hO.lb f0 hS (by omega)
 refine q' 13 O<|c' (X.leq O O) (fun h2=>?_) fun h2=>?_
 ·refine U 9 O ?_
  refine C5 (C8 (A:=[]) call264 rfl (.refl _) (B4l _ (L:=R) (by omega) (by first|assumption|exact Cx ‹_› _ _) hC (a:=x) (b:=y) (by omega) (by omega) (by omega) (by omega))) (by decide) (fun m3 s u_ f1 d=>?_)
  obtain⟨rfl,R5,rfl,b4⟩:=d
  exact U 7 O<|E9 O<|I2<|⟨rfl,_,rfl,hS.tw b4.1 (by omega) (by omega) (by omega),(hO.seg b4.1 (by omega)).done b4.2⟩
 refine U 9 O<|c' (X.eql O O) (fun h7=>?_) fun h7=>?_
 ·refine U 9 O ?_
  refine C5 (C8 (A:=[]) call265 rfl (.refl _) (B1Q _ (L:=R) (by omega) (by first|assumption|exact Cx ‹_› _ _) hC (a:=x) (b:=y) (by omega) (by omega) (by omega) (by omega))) (by decide) (fun m8 s u_ f2 d=>?_)
  obtain⟨rfl,R10,rfl,T⟩:=d
  exact U 7 O<|E9 O<|I2<|⟨rfl,_,rfl,hS.tw T.1 (by omega) (by omega) (by omega),(hO.seg T.1 (by omega)).done T.2⟩
 refine U 5 O ?_
 refine cu3 (fun(R8:List Span) (I:Int) (Q:Mem)=>Q) (fun R8 I Q=>[A5 (v) 23 (R8)]) (fun R8 I Q=>[(0,v),(1,J x),(2,J y),(3,J I),(4,Fc fc),(10,.bool (wb)),(11,.bool (wp)),(12,J (↑y-↑x))]) (fun R8 I Q=>m.le Q∧Seg R R8 x y∧0≤I∧I≤1000) ?_ ?_
 ·refine q' 3 O ?_
  refine J6 (X.not rfl) (by decide) (fun K=>?_) (fun K=>?_)
  ·refine U 9 O ?_
   refine C5 (C8 (A:=[]) call266 rfl (.refl _) (A7E _ (L:=R) (by omega) (by first|assumption|exact Cx ‹_› _ _) hC (a:=x) (b:=y) (by omega) (by omega) (by omega) (by omega))) (by decide) (fun c6 s u_ a5 d=>?_)
   obtain⟨rfl,R15,rfl,c1⟩:=d
   exact U 8 O<|PK R15 (l-1) c6<|⟨a5,c1,by omega,by omega⟩
  exact U 5 O<|PK R l m<|⟨Mem.le_refl _,.refl _ _ _,by omega,by omega⟩
 rintro R8 I Q ⟨F,V,f7,f8⟩
 have f3:=V.len
 have f4:=K8 hBR V.perm
 have f5:=S.seg V (by omega)
 refine q' 6 O ?_
 refine C5 (C8 (A:=[]) call267 rfl (.refl _) (A5s _ (L:=R8) (by omega) (by first|assumption|exact Cx ‹_› _ _) hC (a:=x) (b:=y) (by omega) (by omega) (by omega) (by omega))) (by decide) (fun b6 s u_ t d=>?_)
 obtain⟨b5,e3,rfl,R20,rfl,a4⟩:=d
 have b7:R20=R8:=a4.1
 rw[b7]
 refine have f6:=a4.2;U 7 O ?_
 refine cu (G:=List Span×Nat×Int×Mem) (fun(R12,g,K,n)=>n) (fun(R12,g,K,n)=>[A5 (v) 23 (R12)]) (fun(R12,g,K,n)=>[(0,v),(1,J x),(2,J y),(3,J I),(4,Fc fc),(10,.bool (wb)),(11,.bool (wp)),(12,J (↑y-↑x)),(13,J g),(14,J K)]) (fun(R12,g,K,n)=>b6.le n∧Seg R R12 x y∧x≤g∧g<y) ?_ ?_
 ·refine q' 3 O<|c' (X.eql O O) (fun c7=>?_) fun c7=>?_
  ·refine U 9 O ?_
   refine C5 (C8 (A:=[]) call268 rfl (.refl _) (A2x _ (L:=R8) (by omega) (by first|assumption|exact Cx ‹_› _ _) hC (a:=x) (b:=y) (by omega) (by omega) (by omega) (by omega))) (by decide) (fun c8 s u_ a6 d=>?_)
   obtain⟨rfl,R28,rfl,c2⟩:=d
   refine U 12 O ?_
   obtain⟨e4,c3⟩:∃qq__:Nat,((↑y-1)-(↑b5-↑x):Int)=(qq__:Int):=⟨((↑y-1)-(↑b5-↑x):Int).toNat,(by omega)⟩
   rw[c3]
   exact E2<|q' 4 O<|mt ((R28,e4,1,c8))<|⟨a6,(V.trans c2),by omega,by omega⟩
  exact U 5 O<|mt ((R8,b5,e3,b6))<|⟨Mem.le_refl _,V,by omega,by omega⟩
 rintro⟨R12,g,K,n⟩ c4
 obtain⟨z,p,e5,e6⟩:=c4
 have e0:=p.len
 have e1:=K8 hBR p.perm
 have b3:=S.seg p (by omega)
 refine cu2 (fun(R16:List Span) (u:Mem)=>u) (fun R16 u=>[A5 (v) 23 (R16)]) (fun R16 u=>[(0,v),(1,J x),(2,J y),(3,J I),(4,Fc fc),(10,.bool (wb)),(11,.bool (wp)),(12,J (↑y-↑x)),(13,J g)]) (fun R16 u=>n.le u∧Seg R R16 x y) ?_ ?_
 ·refine q' 3 O ?_
  refine J6 (X.move rfl) (by decide) (fun c9=>?_) (fun c9=>?_)
  ·refine U 3 O ?_
   refine J6 (X.move rfl) (by decide) (fun d0=>?_) (fun d0=>?_)
   ·refine U 3 O<|c' (X.eql O O) (fun d1=>?_) fun d1=>?_
    ·refine U 10 O ?_
     refine C5 (C8 (A:=[]) call269 rfl (.refl _) (A3F _ (L:=R12) (by omega) (by first|assumption|exact Cx ‹_› _ _) hC (a:=x) (b:=y) (by omega) (by omega) (by omega) (by omega) b3)) (by decide) (fun d2 s u_ a7 d=>?_)
     obtain⟨g8,rfl,R36,rfl,P⟩:=d
     refine U 2 O ?_
     refine L1 rfl (fun d3=>?_) (fun d3=>?_)
     ·exact q' 5 O<|E9 O<|I2<|⟨rfl,_,rfl,hS.tw (p.trans P.1) (by omega) (by omega) (by omega),(hO.seg (p.trans P.1) (by omega)).done (P.2 ‹_›)⟩
     exact q' 2 O<|CZ R36 d2<|⟨a7,(p.trans P.1)⟩
    exact U 6 O<|CZ R12 n<|⟨Mem.le_refl _,p⟩
   exact U 8 O<|CZ R12 n<|⟨Mem.le_refl _,p⟩
  exact U 11 O<|CZ R12 n<|⟨Mem.le_refl _,p⟩
 rintro R16 u ⟨B,f⟩
 have e2:=f.len
 have M:=K8 hBR f.perm
 have N:=S.seg f (by omega)
 refine q' 1 O ?_
 refine Bm (fun(w:Bool)=>u) (fun w=>[A5 (v) 23 (R16)]) (fun w=>[(0,v),(1,J x),(2,J y),(3,J I),(4,Fc fc),(10,.bool (wb)),(11,.bool (wp)),(12,J (↑y-↑x)),(13,J g),(97,.bool (w))]) (fun w=>(w=true→0<x∧¬cf (gt R16 (x-1)) (gt R16 g)<0)∧(w=false→¬(0<x∧¬cf (gt R16 (x-1)) (gt R16 g)<0))) ?_ ?_
 ·refine B9 17 [] []<|U' 1 O<|C' O O (X.gtr O O) (fun d4=>?_) fun d4=>?_
  ·refine U' 5 O<|Z O O (A9 0 (x-1))<|Z O O (A.fs 0 (x-1) 0 [J (((gt R16 (x-1))).Lo),J (((gt R16 (x-1))).Hi)] O O O O)<|U' 2 O<|Z O O (A9 0 g)<|Z O O (A.fs 0 (g) 0 [J (((gt R16 g)).Lo),J (((gt R16 g)).Hi)] O O O O)<|Z O O (E1 hC.1 rfl rfl (hC.2.1 _ (gt R16 (x-1)) (gt R16 g)))<|C' O O (X.lss O O) (fun d5=>?_) fun d5=>?_
   ·exact U' 2 O<|V' 1 O<|H5 false<|DQ
   exact U' 2 O<|V' 1 O<|H5 true<|DQ
  exact U' 15 O<|V' 1 O<|H5 false<|DQ
 rintro w ⟨H,c5⟩
 refine L1 rfl (fun d6=>?_) (fun d6=>?_)
 ·refine q' 7 O ?_
  refine C5 (C8 (A:=[]) call270 rfl (.refl _) (A5o _ (L:=R16) (by omega) (by first|assumption|exact Cx ‹_› _ _) hC (a:=x) (b:=y) (pv:=g) (by omega) (by omega) (by omega) (by omega) (by omega) (by omega))) (by decide) (fun g0 s u_ a8 d=>?_)
  obtain⟨e7,rfl,R47,rfl,C⟩:=d
  refine have b8:=C.bd;have b9:=C.seg.len;have E:=K8 M C.seg.perm;U 13 O<|G9 o (Mem.le_trans F (Mem.le_trans t (Mem.le_trans z (Mem.le_trans B a8)))) ?_
  refine nx ((e7,y,I,wb,wp,R47)) ?_ ?_
  ·exact⟨by have a2:=C.bd;omega,by omega,hS.tw (f.trans C.seg) (by omega) (by omega) (by omega),B5x (hO.seg f (by omega)) (by omega) C N (H ‹_›).1 (fun h_=>(H ‹_›).2 ((hC.cl M).2 h_))⟩
  ((try dsimp only);omega)
 refine q' 9 O ?_
 refine C5 (C8 (A:=[]) call271 rfl (.refl _) (B1o _ (L:=R16) (by omega) (by first|assumption|exact Cx ‹_› _ _) hC (a:=x) (b:=y) (pv:=g) (by omega) (by omega) (by omega) (by omega) (by omega) (by omega))) (by decide) (fun g1 s u_ D d=>?_)
 obtain⟨r,a3,rfl,R52,rfl,c⟩:=d
 refine have b8:=c.bd;have b9:=c.seg.len;have E:=K8 M c.seg.perm;U 28 O<|y' (X.quo rfl rfl (by omega) (by omega) (by omega))<|U 7 O<|c' (X.lss O O) (fun d7=>?_) fun d7=>?_
 ·refine U 7 O<|c' (X.geq O O) (fun d8=>?_) fun d8=>?_
  ·refine U 10 O ?_
   refine C5 (C8 (A:=[]) call224 rfl (.refl _) (ih (r-x) (by omega) _ (L:=R52) (a:=x) (b:=r) (by omega) E hC (by omega) (by omega) rfl (by omega) (by omega) (by omega) (c.lbL N (by omega)))) (by decide) (fun g2 s _ a9 d=>?_)
   obtain⟨rfl,R60,rfl,W⟩:=d
   refine U 9 O<|G9 o (Mem.le_trans F (Mem.le_trans t (Mem.le_trans z (Mem.le_trans B (Mem.le_trans D a9))))) ?_
   refine nx (((r+1),y,I,true,a3,R60)) ?_ ?_
   ·exact⟨by have a2:=c.bd;omega,by omega,(hS.tw (f.trans c.seg) (by omega) (by omega) (by omega)).tw W.1 (by omega) (by omega) (by omega),QT (hO.seg f (by omega)) (by omega) c W.1 W.2⟩
   ((try dsimp only);omega)
  refine U 10 O ?_
  refine C5 (C8 (A:=[]) call224 rfl (.refl _) (ih (r-x) (by omega) _ (L:=R52) (a:=x) (b:=r) (by omega) E hC (by omega) (by omega) rfl (by omega) (by omega) (by omega) (c.lbL N (by omega)))) (by decide) (fun g3 s _ b0 d=>?_)
  obtain⟨rfl,R64,rfl,Y⟩:=d
  refine U 9 O<|G9 o (Mem.le_trans F (Mem.le_trans t (Mem.le_trans z (Mem.le_trans B (Mem.le_trans D b0))))) ?_
  refine nx (((r+1),y,I,false,a3,R64)) ?_ ?_
  ·exact⟨by have a2:=c.bd;omega,by omega,(hS.tw (f.trans c.seg) (by omega) (by omega) (by omega)).tw Y.1 (by omega) (by omega) (by omega),QT (hO.seg f (by omega)) (by omega) c Y.1 Y.2⟩
  ((try dsimp only);omega)
 refine U 7 O<|c' (X.geq O O) (fun d9=>?_) fun d9=>?_
 ·refine U 11 O ?_
  refine C5 (C8 (A:=[]) call224 rfl (.refl _) (ih (y-(r+1)) (by omega) _ (L:=R52) (a:=(r+1)) (b:=y) (by omega) E hC (by omega) (by omega) rfl (by omega) (by omega) (by omega) c.lbR)) (by decide) (fun g4 s _ b1 d=>?_)
  obtain⟨rfl,R69,rfl,a0⟩:=d
  refine U 8 O<|G9 o (Mem.le_trans F (Mem.le_trans t (Mem.le_trans z (Mem.le_trans B (Mem.le_trans D b1))))) ?_
  refine nx ((x,r,I,true,a3,R69)) ?_ ?_
  ·exact⟨by have a2:=c.bd;omega,by omega,(hS.tw (f.trans c.seg) (by omega) (by omega) (by omega)).tw a0.1 (by omega) (by omega) (by omega),Qe (hO.seg f (by omega)) (by omega) c a0.1 a0.2⟩
  ((try dsimp only);omega)
 refine U 11 O ?_
 refine C5 (C8 (A:=[]) call224 rfl (.refl _) (ih (y-(r+1)) (by omega) _ (L:=R52) (a:=(r+1)) (b:=y) (by omega) E hC (by omega) (by omega) rfl (by omega) (by omega) (by omega) c.lbR)) (by decide) (fun g5 s _ b2 d=>?_)
 obtain⟨rfl,R73,rfl,a1⟩:=d
 refine U 8 O<|G9 o (Mem.le_trans F (Mem.le_trans t (Mem.le_trans z (Mem.le_trans B (Mem.le_trans D b2))))) ?_
 refine nx ((x,r,I,false,a3,R73)) ?_ ?_
 ·exact⟨by have a2:=c.bd;omega,by omega,(hS.tw (f.trans c.seg) (by omega) (by omega) (by omega)).tw a1.1 (by omega) (by omega) (by omega),Qe (hO.seg f (by omega)) (by omega) c a1.1 a1.2⟩
 ((try dsimp only);omega)
theorem B5m(k:Nat):A7H k:=Nat.strongRecOn k fun n ih=>A0O n ih
theorem A2q(m:Mem){v:Value}{L:List Span}(hL:L.length≤4000000000)(hB:Cz L){fc:Nat}{cf:Span→Span→Int}(hC:CmpOk fc cf):Mut prog 148 #[v,Fc fc] m [A5 v 23 L] (fun _ Es u=>u= .tuple #[]∧∃R,Es=[A5 v 23 R]∧R.Perm L∧Srt Span.Lo R 0 R.length):=by
 refine G3 func148 O ntmps148 fun l=>q' 3 O<|y' (V8 (k:=0) runUnderlying28 rfl rfl)<|U 7 O<|y' (O8 runUnderlying3 runUnderlying358 rfl (U2 (by omega) (by omega))) ?_
 refine C0 (T.call call225 rfl (NR _ (z:=↑L.length) (by omega))) (by decide) (fun q _ f c=>?_)
 obtain⟨s,rfl,o,p⟩:=c
 refine U 1 O ?_
 refine C5 (C8 (A:=[]) call224 rfl (.refl _) (B5m _ _ (L:=L) (a:=0) (b:=L.length) (by omega) hB hC rfl rfl rfl (EF _) (E' _) (by omega) (.zero _ _))) (by decide) (fun r n _ g c=>?_)
 obtain⟨rfl,R8,rfl,d⟩:=c
 exact U 1 O<|D0 O<|I2<|⟨rfl,_,rfl,d.1.perm,by rw[d.1.len];exact d.2⟩
theorem B2k(m:Mem){n:Nat}{zn:Int}(hz:zn=n)(hn:n≤200000):Mut prog 214 #[S0,J zn] m [] (fun _ Es u=>Es=[A5 u 23 ([]:List Span)]∧u.oneCell'=true):=by
 subst hz
 refine G3 func214 O ntmps214 fun b=>q' 9 O<|y' (OpX.f (X.lss rfl rfl) (by omega))<|U 10 O<|y' (X.cap (c:=0) runUnderlying28 rfl)<|U 1 O<|y' (Jz runUnderlying28 rfl (q:=0) rfl)<|U 8 O<|c' (X.gtr O O) (fun d=>?_) fun d=>?_
 ·refine U 6 O<|y' (X.cap (c:=0) runUnderlying28 rfl)<|y' (B0W underlying28 sizeOf23 rfl rfl)<|U 1 O ?_
  refine WL.to (A2M K9 underlying3 n rfl rfl (by omega) (by omega) (by decide) (by omega) (by omega)) (by decide) (fun p m_ r a=>?_)
  obtain⟨rfl,s,t,zs,rfl,l,o,rfl⟩:=a
  exact U 1 O<|y' (Jz runUnderlying28 rfl (q:=0) rfl)<|y' (A0J 0 underlying28 sizeOf23 rfl rfl rfl (by omega) (by omega))<|U 4 O<|A6m (k:=0) (h:=0) O (by omega)<|q' 6 O<|A0 O O<|I2<|⟨Sd (fun g=>[g]) (Og (α:=Span) (L:=[]) rfl (by rw[SU];rfl)),rfl⟩
 exact U 6 O<|I5 Span 23<|q' 6 O<|A0 O O<|I2<|⟨rfl,rfl⟩
theorem Px(m:Mem){v:Value}{Ls:List (List Span)}(hL:Sl m v Ls)(hn:Ls.length≤4)(hb:∀i,i<Ls.length→(gt Ls i).length≤50000):Mut prog 128 #[v] m [] (fun _ Es u=>Es=[A5 u 23 (EM Ls Ls.length)]∧u.oneCell'=true):=by
 refine G3 func128 O ntmps128 fun D=>q' 14 O<|l' hL O<|U 4 O ?_
 refine S5 (fun(k:Nat) (a:Int)=>Ls.length-k) (fun k a=>[]) (fun k a=>[(0,v),(3,J a),(9,v),(10,J Ls.length),(11,J k)]) (fun k a=>k≤Ls.length∧a=(Od Ls k:Int)) 0 0 ?_ ?_
 ·exact⟨EF _,rfl⟩
 rintro k a ⟨N,I⟩
 have o:=Om hb k (by omega)
 refine have A:=fun r:k<Ls.length=>hb k r;q' 2 O<|c' (X.lss O O) (fun E=>?_) fun E=>?_
 ·exact U 10 O<|x' k hL O O fun K s=>s' s O fun L g=>have H:=g.le;U 7 O<|l' g O<|U 7 O<|y' (OpX.f (X.lss rfl rfl) (by omega))<|U 11 O<|K2 (k+1) (a+(↑(gt Ls k).length))<|⟨by omega,by have r:=PH Ls k;omega⟩
 refine U 12 O ?_
 refine C5 (H3 call214 rfl (B2k _ (n:=Int.toNat a) (by omega) (by omega))) (by decide) (fun M Es9 t d w=>?_)
 obtain⟨rfl,C⟩:=w
 refine have hL:=hL.mono d;U 7 O<|l' hL O<|U 4 O ?_
 have p:(([]:List Span))=(EM Ls 0):=rfl
 rw[p]
 refine S5 (fun(i:Nat) (vo:Value)=>Ls.length-i) (fun i vo=>[A5 (vo) 23 (EM Ls i)]) (fun i vo=>[(6,vo),(25,v),(26,J Ls.length),(27,J i)]) (fun i vo=>i≤Ls.length) 0 t ?_ ?_
 ·exact EF _
 rintro i vo c
 try dsimp only at c
 have hi:=c
 have o:=Om hb i (by omega)
 unfold Od at o
 refine have A:=fun r:i<Ls.length=>hb i r;q' 2 O<|c' (X.lss O O) (fun x=>?_) fun x=>?_
 ·refine U 10 O<|x' i hL O O fun F l=>s' l O fun G b=>have B:=b.le;U 6 O ?_
  refine G2 (X5 (α:=Span) (fun _ _ _ h=>h) (k:=0) K9 rfl rfl b rfl (by first|omega|(simp;omega)) (by first|omega|(simp;omega))) (by decide) (fun y=>?_)
  refine U 9 O ?_
  have q:((EM Ls i)++(gt Ls i))=(EM Ls (i+1)):=rfl
  rw[q]
  exact K2 (i+1) y<|by omega
 refine U 11 O ?_
 refine E8 (k:=0) rfl (fun z=>?_)
 obtain rfl:i=Ls.length:=(by omega)
 exact U 5 O<|A0 O O<|I2<|⟨rfl,z⟩
theorem B3z(m:Mem){p:Paper}{v:Value}{l:List Point}(hl:Sl m v l):Pure prog 73 #[.agg [J p.Pitch,J p.Height,J p.Radius,J p.Low,J p.High,J p.Columns,J p.Along.Lo,J p.Along.Hi,J p.Across.Lo,J p.Across.Hi].toArray,v] m (fun _ u=>∃f,u= .tuple #[.agg (Flat.enc (α:=Paper) f).toArray,J (Bd p l)]∧(Bd p l=0→f=p)):=by
 refine F6 func73 O ntmps73 fun c=>q' 2 O<|o' O O fun k=>n' zeroValue179 O fun n=>U 6 O<|a' 1 O O<|y' (X.call call141 rfl (LB _ _ p rfl))<|U 6 O<|e' (X.neq O O) (fun d=>?_) fun d=>?_
 ·refine U 5 O<|WL.x (V:=Value.agg [J 0,J 0,J 0,J 0,J 0,J 0,J 0,J 0,J 0,J 0].toArray) (X.build zeroValue179 runUnderlying179 (Pe _ underlying179) rfl rfl) (by decide) ?_
  exact U 1 O<|w' 0 O O O<|U 5 O<|E6 0 O O O O isAgg179 sizeOf179<|C2<|⟨⟨0,0,0,0,0,0,⟨0,0⟩,⟨0,0⟩⟩,G4 rfl (B0 (OT (by omega)).symm),fun g=>by rw[OT (by omega)]at g;omega⟩
 refine U 8 O ?_
 refine C0 (T.call call142 rfl (RP _ hl)) (by decide) (fun o _ b a=>?_)
 obtain⟨q,rfl⟩:=a
 refine U 9 O<|a' 1 O O<|WL.x (V:=Value.agg [J p.Pitch,J p.Height,J p.Radius,J p.Low,J p.High,J p.Columns,J p.Along.Lo,J p.Along.Hi,J p.Across.Lo,J p.Across.Hi].toArray) (X.build zeroValue179 runUnderlying179 (Pe _ underlying179) rfl (by kernel_rfl)) (by decide) ?_
 exact U 1 O<|w' 0 O O O<|U 4 O<|E6 0 O O O O isAgg179 sizeOf179<|C2<|⟨p,G4 rfl (B0 (A7p (by omega)).symm),fun _=>rfl⟩
theorem B2o(m:Mem){f:Paper}{t:Point}{pf pt:Addr}(hpf:At m pf f)(hpt:At m pt t)(hf:K6 f)(ht:O5 t):S1 prog 143 [.pointer (some pf),.pointer (some pt)] m false (Q8 f t) (Qo f t):=by
 intro lo S HS I Ix F a5 u hy h0
 have hyb_:=A4S hf ht
 have g:=ht
 unfold O5 at g
 refine have a1:=hf.1;have R:=Y6 g.1 g.2.2 hf.2.2.2.1;have W:=Y6 g.2.1 g.2.2 hf.2.2.2.2;G3 func143 O ntmps143 fun a6=>?_
 refine cu3 (fun(m1:Mem) (n:Nat) (c:Nat)=>m1) (fun m1 n c=>([blk c 23 [J ((F2 t.Y t.Half f.Across).Lo),J (min (F2 t.Y t.Half f.Across).Hi f.Height)],blk n 23 [J ((F2 t.X t.Half f.Along).Lo),J ((F2 t.X t.Half f.Along).Hi)]]++HS F)) (fun m1 n c=>[(0,.func (.yield lo) #[] #[]),(1,.pointer (some (pf))),(4,Pt n 0),(5,Pt c 0)]) (fun m1 n c=>m.le m1) ?_ ?_
 ·refine L4 (π:=sq [0,1,2,3,4,5] (.fork (sq [6,7,8,9] .done) (sq [7,6,8,9] .done))) [6,7,8,9] [8,9] O (by kernel_rfl)<|G' hpf O O O fun c2 H=>?_
  obtain rfl:=H
  refine J0 rfl rfl (De isAgg102 sizeOf102 rfl hpt) (by decide) (fun c4 K=>?_)
  obtain rfl:=K
  refine Z O O (X.call call144 rfl (A9Y _ _ f rfl _ t rfl ‹_› ‹_›))<|G' hpf O O O fun c6 L=>?_
  obtain rfl:=L
  refine J0 rfl rfl (De isAgg102 sizeOf102 rfl hpt) (by decide) (fun c8 M=>?_)
  obtain rfl:=M
  refine DW.y rfl rfl (X.call call145 rfl (A2O _ _ f rfl _ t rfl ‹_› ‹_›)) ?_
  refine DW.fork (SW _ _) ?_ ?_
  ·exact N3 O O O (T.alloc zeroValue23 rfl) (by decide) fun c=>N3 O O O (T.alloc zeroValue23 rfl) (by decide) fun N=>W' 1 O O O O O<|W' 0 O O O O O<|V' 1 O<|PK m c N<|Mem.le_refl _
  exact N3 O O O (T.alloc zeroValue23 rfl) (by decide) fun o=>N3 O O O (T.alloc zeroValue23 rfl) (by decide) fun p=>W' 0 O O O O O<|W' 1 O O O O O<|V' 1 O<|WK.perm ([blk o 23 [J ((F2 t.Y t.Half f.Across).Lo),J (min (F2 t.Y t.Half f.Across).Hi f.Height)],blk p 23 [J ((F2 t.X t.Half f.Along).Lo),J ((F2 t.X t.Half f.Along).Hi)]]++HS F) (TL (HS F) ((List.Perm.cons _ (.refl _)).trans (So (l₁:=[blk p 23 [J ((F2 t.X t.Half f.Along).Lo),J ((F2 t.X t.Half f.Along).Hi)]]) (l₂:=[]) (a:=blk o 23 [J ((F2 t.Y t.Half f.Across).Lo),J (min (F2 t.Y t.Half f.Across).Hi f.Height)])).symm))<|PK m p o<|Mem.le_refl _
 rintro m1 n c d
 refine have hpf:=hpf.mono d;q' 2 O<|f' O t'<|b' 0 O O O<|U 4 O ?_
 have a2:m.le m1:=d
 refine lp (G:=Nat×Int×Mem×S) (fun(k,y,mm,ss)=>Q8 f t-k) (fun(k,y,mm,ss)=>mm) (fun(k,y,mm,ss)=>([blk c 23 [J ((F2 t.Y t.Half f.Across).Lo),J (min (F2 t.Y t.Half f.Across).Hi f.Height)],blk n 23 [J ((F2 t.X t.Half f.Along).Lo),J ((F2 t.X t.Half f.Along).Hi)]]++HS ss)) (fun(k,y,mm,ss)=>[(0,.func (.yield lo) #[] #[]),(1,.pointer (some (pf))),(4,Pt n 0),(5,Pt c 0),(6,J y)]) (fun(k,y,mm,ss)=>m1.le mm∧I k mm ss∧k≤Q8 f t∧y=Dj f t+k) ((0,(F2 t.Y t.Half f.Across).Lo,m1,F)) ?_ ?_
 ·exact⟨Mem.le_refl _,u _ _ _ _ d h0,EF _,by unfold Dj;omega⟩
 rintro⟨k,y,mm,ss⟩ D
 obtain⟨s,hI,hk,a8⟩:=D
 replace hpf:=hpf.mono s
 have z:=hk
 unfold Q8 Dj yHi at z
 have a3:Dj f t=(F2 t.Y t.Half f.Across).Lo:=rfl
 refine q' 4 O<|f' O t'<|b' 0 O O O<|c' (X.leq O O) (fun P=>?_) fun P=>?_
 ·refine U 9 O<|g' hpf O fun a7 v=>?_
  obtain rfl:=v
  refine U 1 O<|y' (X.call call146 rfl (B4y _ _ f rfl _ ‹_› (by omega)))<|U 4 O ?_
  have a4:=RD hf (y:=y) (by omega)
  refine B9 21 [19] [19]<|U' 2 O<|Z O O (A.f O)<|Z O O (A.b 1 O O O)<|U' 2 O<|Z O O (A.f O)<|have B:=HF (At.zero hpf);Z O O (A.f O)<|Z O O (A.i O B)<|Z O O (X.call call147 rfl (HE _ _ _ (by omega) (by omega)))<|Z O O (A.f O)<|Z O O (A.b 1 O O O)<|U' 2 O<|Z O O (A.f O)<|have C:=HF (At.zero hpf);Z O O (A.f O)<|Z O O (A.i O C)<|Z O O (X.call call147 rfl (HE _ _ _ (by omega) (by omega)))<|DW.x (V:=Value.agg [J (((((F2 t.X t.Half f.Along).Lo)-(Gz f y)))/f.Pitch),J (((((F2 t.X t.Half f.Along).Hi)-(Gz f y)))/f.Pitch)].toArray) O O (X.build zeroValue23 runUnderlying23 (H6 _ underlying23) rfl rfl) (by decide) ?_
  have a0:k<Q8 f t:=(by have E:=hyb_;unfold Q8 Dj yHi at *; omega)
  refine B0v rfl rfl rfl rfl (T.yield (A:=[blk c 23 [J ((F2 t.Y t.Half f.Across).Lo),J (min (F2 t.Y t.Half f.Across).Hi f.Height)],blk n 23 [J ((F2 t.X t.Half f.Along).Lo),J ((F2 t.X t.Half f.Along).Hi)]]) rfl rfl rfl (hy k _ ss _ a0 (Mem.le_trans d s) (A7D (by unfold Dj;omega) (by unfold CG;rfl) (by unfold CG;rfl) _) hI)) (fun _ _ E=>E.1) (fun _ _ E=>E.1) (by decide) (fun w Q q=>?_) (fun w Q q=>?_)
  ·obtain⟨l,s2_,rfl,hI2_⟩:=q
   refine U' 1 O<|V' 11 O ?_
   refine nx ((k+1,y+1,w,s2_)) ?_ ?_
   ·exact⟨Mem.le_trans s l,hI2_,by omega,by omega⟩
   (dsimp only;omega)
  obtain⟨l,s2_,rfl,hI2_⟩:=q
  refine U' 1 O<|V' 7 O ?_
  refine E9 rfl (fun w' r=>B3 (r.weaken (.cons _ (.cons _ (.refl _)))) ?_)
  exact⟨s2_,rfl,.inr ⟨k+1,by omega,hI2_⟩⟩
 refine U 7 O ?_
 refine D0 rfl (fun w' r=>B3 (r.weaken (.cons _ (.cons _ (.refl _)))) ?_)
 obtain rfl:k=Q8 f t:=(by unfold Q8 Dj yHi;omega)
 exact⟨ss,rfl,.inl hI⟩
theorem B3U(m:Mem){f:Paper}{t:Point}(hf:K6 f)(ht:O5 t):Pure prog 75 #[.agg [J f.Pitch,J f.Height,J f.Radius,J f.Low,J f.High,J f.Columns,J f.Along.Lo,J f.Along.Hi,J f.Across.Lo,J f.Across.Hi].toArray,.agg [J t.X,J t.Y,J t.Half].toArray] m (fun m' v=>∃lb,v= .func (.func 143) #[] lb.toArray∧S1 prog 143 lb m' false (Q8 f t) (Qo f t)):=by
 exact F6 func75 O ntmps75 fun k=>q' 2 O<|o' O O fun l=>o' O O fun n=>U 4 O<|fz (x:=f) 1 O O O fun o d a=>fz (x:=t) 0 O O O fun p b c=>have a:=a.mono b;q' 1 O<|y' (X.makeFunc (by intro x g;simp at g;rcases g with rfl|rfl;all_goals exact⟨_,rfl⟩) rfl)<|U 4 O<|A0 O O<|C2<|⟨_,rfl,B2o _ a c hf ht⟩
theorem B5z(m:Mem){V v:Value}{e sz n off:Nat}{xs:List Value}{L M:List Span}{vl:Value}(hxv:xs[off]?=some v)(hL:RisP L)(hM:Sl m vl M)(hMp:RisP M):Mut prog 78 #[.pointer (some (rp V off)),vl] m [row V e sz n xs,A5 v 23 L] (fun _ Es u=>u= .tuple #[]∧∃U,Es=[row V e sz n (xs.set off U),A5 U 23 (K4 (L++M))]∧U.oneCell'=true):=by
 have c:off<xs.length:=(Sq.1 hxv).1
 have a7:=hL.len
 have a8:=hMp.len
 have a4:∀s∈L++M,s.Lo≤s.Hi:=fun s S=>(Sa.1 S).elim (hL.valid s) (hMp.valid s)
 refine G3 func78 O ntmps78 fun b0=>q' 4 O<|f' O t'<|y' (M3 (k:=0) isAgg28 rfl rfl hxv)<|U 1 O ?_
 refine E8 (k:=1) rfl (fun g=>?_)
 refine G2 (Ra (α:=RawV) (vals:=[v,vl]) (L:=[RawV.mk v g,RawV.mk vl hM.one]) Lq rfl (B2t g hM.one) (by intro v hv;simp at hv;rcases hv with rfl|rfl <;> first|(simp[D7 g,Flat.n];done)|(simp[D7 hM.one,Flat.n];done)) rfl rfl rfl) (by decide) (fun v1=>?_)
 refine C5 (KR (R:=fun z T=>z=[A5 T 23 (EM [L,M] 2)]∧T.oneCell'=true) call128 rfl (fun _ w_ r=>Px _ (Ls:=[L,M]) (r.rowSlA (k:=0) rfl (B1r (r.rowFSl (k:=2) rfl (by unfold C7;omega)) (hM.mono r.leAll)) (by simp[C7])) (by simp) (A1t (by omega) (by omega)))) (by decide) (fun m3 Es4 v5 B t=>?_)
 obtain⟨rfl,b4⟩:=t
 refine have hM:=hM.mono B;U 2 O ?_
 have a5:(EM [L,M] 2)=(L++M):=A0v L M
 rw[a5]
 refine E2<|q' 3 O ?_
 refine C5 (C8 (A:=[A5 (v1) 28 ([RawV.mk v g,RawV.mk vl hM.one]),row (V) e sz (n) (xs),A5 (v) 23 (L)]) call148 rfl (.refl _) (A2q _ (L:=L++M) (by rw[F'];omega) (B2T (NP hL.bd hMp.bd)) A8k)) (by decide) (fun m9 z T w t=>?_)
 obtain⟨rfl,R11,rfl,d⟩:=t
 refine have hM:=hM.mono w;U 1 O ?_
 have a9:R11.length=L.length+M.length:=(by rw[d.1.length_eq,F'])
 have F:Cw R11:=A0y (NP hL.bd hMp.bd) d.1
 refine E2<|q' 4 O<|f' O t'<|G7 (CN (k:=2) sizeOf28 rfl rfl rfl rfl c)<|U 1 O<|I5 Span 23 ?_
 have G:(([]:List Span))=(C4 (R11.take 0)):=rfl
 rw[G]
 refine E2<|q' 3 O<|y' (V8 (k:=1) runUnderlying28 rfl rfl)<|U 4 O ?_
 refine S5 (fun(k:Nat) (vq:Value)=>R11.length-k) (fun k vq=>[A5 (vq) 23 (C4 (R11.take k)),A5 (v5) 23 (R11),A5 (v1) 28 ([RawV.mk v g,RawV.mk vl hM.one]),row (V) e sz (n) (xs.set off vq),A5 (v) 23 (L)]) (fun k vq=>[(0,.pointer (some (rp V off))),(20,v5),(21,J R11.length),(22,J k)]) (fun k vq=>k≤R11.length) 0 (Value.slice none 0 0) ?_ ?_
 ·exact EF _
 rintro k vq q
 try dsimp only at q
 have hk:=q
 have o:=LX (l:=R11.take k) (fun s S=>F s (TQ S))
 have x:=o.2
 rw[Sr]at x
 have a6:(C4 (R11.take k)).length≤k:=(by omega)
 have Q:0<(C4 (R11.take k)).length→0≤(gt (C4 (R11.take k)) ((C4 (R11.take k)).length-1)).Hi∧(gt (C4 (R11.take k)) ((C4 (R11.take k)).length-1)).Hi≤12000:=fun y=>(Rw o.1 (by omega)).2
 refine q' 2 O<|c' (X.lss O O) (fun W=>?_) fun W=>?_
 ·refine U 10 O<|y' (A9 1 k)<|y' (A.fs 1 (k) 0 [J (((gt R11 k)).Lo),J (((gt R11 k)).Hi)] O O O O)<|n' zeroValue23 O fun b1=>w' 0 O O O<|U 6 O<|f' O t'<|y' (M3 (k:=4) isAgg28 rfl rfl (GW c))<|y' (V8 (k:=1) runUnderlying28 rfl rfl)<|U 5 O<|B9 17 [] []<|U' 1 O<|C' O O (X.gtr O O) (fun Y=>?_) fun Y=>?_
  ·refine U' 1 O<|Z O O (A.f O)<|Z O O (A.b 0 O O O)<|U' 2 O<|Z O O (A.f O)<|Z O O (M3 (k:=4) isAgg28 rfl rfl (GW c))<|U' 2 O<|Z O O (A9 1 ((C4 (R11.take k)).length-1))<|Z O O (A.f O)<|Z O O (P2 (k:=1) (i:=(C4 (R11.take k)).length-1) (off:=1) (u:=J (((gt (C4 (R11.take k)) ((C4 (R11.take k)).length-1))).Hi)) isAgg3 rfl rfl (by first|omega|(simp;omega)|simp) rfl)<|U' 1 O<|C' O O (X.leq O O) (fun a0=>?_) fun a0=>?_
   ·refine U' 1 O<|V' 3 O<|B9 21 [20] [20]<|U' 2 O<|Z O O (A.f O)<|Z O O (M3 (k:=4) isAgg28 rfl rfl (GW c))<|U' 4 O<|Z O O (A.f O)<|Z O O (M3 (k:=4) isAgg28 rfl rfl (GW c))<|U' 2 O<|Z O O (A9 1 ((C4 (R11.take k)).length-1))<|Z O O (A.f O)<|Z O O (P2 (k:=1) (i:=(C4 (R11.take k)).length-1) (off:=1) (u:=J (((gt (C4 (R11.take k)) ((C4 (R11.take k)).length-1))).Hi)) isAgg3 rfl rfl (by first|omega|(simp;omega)|simp) rfl)<|Z O O (A.f O)<|Z O O (A.b 0 O O O)<|Z O O (EG rfl rfl)<|Z O O (A9 1 ((C4 (R11.take k)).length-1))<|Z O O (A.f O)<|B4 O O O O (D3 (k:=1) (i:=(C4 (R11.take k)).length-1) (off:=1) (us:=[J (max (((gt (C4 (R11.take k)) ((C4 (R11.take k)).length-1))).Hi) (((gt R11 k)).Hi))]) ((Span.mk (((gt (C4 (R11.take k)) ((C4 (R11.take k)).length-1))).Lo) (max (((gt (C4 (R11.take k)) ((C4 (R11.take k)).length-1))).Hi) (((gt R11 k)).Hi)))) sizeOf3 rfl rfl rfl rfl (O' _) rfl (by first|omega|(simp;omega)|simp) rfl rfl (A4 rfl C6))<|V' 10 O ?_
    have H:((C4 (R11.take k)).set ((C4 (R11.take k)).length-1) ((Span.mk (((gt (C4 (R11.take k)) ((C4 (R11.take k)).length-1))).Lo) (max (((gt (C4 (R11.take k)) ((C4 (R11.take k)).length-1))).Hi) (((gt R11 k)).Hi)))))=(C4 (R11.take (k+1))):=((Ao (by omega)).trans (HX ⟨by omega,by omega⟩)).symm
    rw[H]
    exact K2 (k+1) vq<|by omega
   refine U' 1 O<|V' 4 O<|B9 11 [6,7,10] [7,10]<|U' 3 O<|Z O O (A.f O)<|Z O O (M3 (k:=4) isAgg28 rfl rfl (GW c))<|Z O O (L9 0 O O O)<|As O O O (G6 K9 rfl rfl rfl (by decide)) (by decide) fun b2=>?_
   refine Ae rfl rfl rfl rfl (G1 (k:=1) (a:=gt R11 k) K9 rfl rfl rfl rfl (by first|omega|(simp;done)|(simp;omega)) (by decide)) (by decide) (fun a1=>?_)
   refine U' 1 O<|Z O O (A.f O)<|B4 O O O O (T1 (k:=1) rfl trivial (D1 rfl rfl rfl) fun C=>PX (k:=4) sizeOf28 rfl rfl rfl C c)<|V' 7 O ?_
   have I:((C4 (R11.take k))++[gt R11 k])=(C4 (R11.take (k+1))):=((Ao (by omega)).trans (CY (fun y=>by have h1_:=y.1;have h2_:=y.2;omega))).symm
   rw[I]
   exact K2 (k+1) a1<|by omega
  refine U' 15 O<|V' 4 O<|B9 11 [6,7,10] [7,10]<|U' 3 O<|Z O O (A.f O)<|Z O O (M3 (k:=4) isAgg28 rfl rfl (GW c))<|Z O O (L9 0 O O O)<|As O O O (G6 K9 rfl rfl rfl (by decide)) (by decide) fun b3=>?_
  refine Ae rfl rfl rfl rfl (G1 (k:=1) (a:=gt R11 k) K9 rfl rfl rfl rfl (by first|omega|(simp;done)|(simp;omega)) (by decide)) (by decide) (fun a2=>?_)
  refine U' 1 O<|Z O O (A.f O)<|B4 O O O O (T1 (k:=1) rfl trivial (D1 rfl rfl rfl) fun D=>PX (k:=4) sizeOf28 rfl rfl rfl D c)<|V' 7 O ?_
  have K:((C4 (R11.take k))++[gt R11 k])=(C4 (R11.take (k+1))):=((Ao (by omega)).trans (CY (fun y=>by have h1_:=y.1;have h2_:=y.2;omega))).symm
  rw[K]
  exact K2 (k+1) a2<|by omega
 refine U 8 O ?_
 have N:k=R11.length:=(by omega)
 have P:(C4 (R11.take k))=(K4 (L++M)):=(by rw[N,Un];exact HN d.1 d.2 a4)
 rw[P]
 refine WK.p [1,1,2,1] ?_
 refine OB (k:=4) rfl (fun E=>?_)
 refine D0 rfl (fun w' a3=>B3 (a3.weaken (.cons _ (.cons _ (.cons _ (.refl _))))) ?_)
 exact⟨rfl,_,rfl,E⟩
end Go.Proofs.T10
