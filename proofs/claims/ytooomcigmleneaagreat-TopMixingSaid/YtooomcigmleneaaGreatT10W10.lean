import Derived.Test.YtooomcigmleneaaGreatKxW
import Derived.Test.YtooomcigmleneaaGreatKyP
import Derived.Test.YtooomcigmleneaaGreatT10Ty
import Derived.Test.YtooomcigmleneaaGreatKxU
import Derived.Test.YtooomcigmleneaaGreatKxQ
import Derived.Test.YtooomcigmleneaaGreatT10W7
import Derived.Test.YtooomcigmleneaaGreatT10SSpec2
import Derived.KernelRfl
set_option linter.all false
set_option maxHeartbeats 8000000
namespace Go.Proofs.T10
open Tryz
set_option maxRecDepth 20000
open Go Go.Kx
theorem B5b(m:Mem){b0:Nat}{z:Int}(hpz:A2i z):Mut prog 307 #[Pt b0 0] m [blk b0 439 [.int .u64 z]] (fun _ Es u=>∃r:Int,u= .int .u64 r∧Es=[blk b0 439 [.int .u64 r]]∧A2i r):=by
 exact G3 func307 r' ntmps307 fun wld=>q' 6 r'<|B4 10 [9] [9]<|U' 2 r'<|Y' r' r' (A.b 0 r' r' r')<|U' 2 r'<|Y' r' r' (A.b 0 r' r' r')<|G9 r' r' (B8k rfl rfl (by decide)) (by decide) fun z1 hu2=>G9 r' r' (B3N rfl rfl) (by decide) fun z3 hu4=>U' 1 r'<|B3 r' r' r' r' (T.storeB (k:=0) sizeOf439 rfl rfl rfl rfl (Nat.le_of_ble_eq_true rfl))<|V' 2 r'<|B4 10 [9] [9]<|U' 2 r'<|Y' r' r' (A.b 0 r' r' r')<|U' 2 r'<|Y' r' r' (A.b 0 r' r' r')<|G9 r' r' (C5p rfl rfl (by decide) hu4) (by decide) fun z5 hu6=>G9 r' r' (B3N rfl rfl) (by decide) fun z7 hu8=>U' 1 r'<|B3 r' r' r' r' (T.storeB (k:=0) sizeOf439 rfl rfl rfl rfl (Nat.le_of_ble_eq_true rfl))<|V' 2 r'<|B4 10 [9] [9]<|U' 2 r'<|Y' r' r' (A.b 0 r' r' r')<|U' 2 r'<|Y' r' r' (A.b 0 r' r' r')<|G9 r' r' (B8k rfl rfl (by decide)) (by decide) fun z9 hu10=>G9 r' r' (B3N rfl rfl) (by decide) fun z11 hu12=>U' 1 r'<|B3 r' r' r' r' (T.storeB (k:=0) sizeOf439 rfl rfl rfl rfl (Nat.le_of_ble_eq_true rfl))<|V' 5 r'<|b' 0 r' r' r'<|v' 4 r'<|A0 r' r'<|G0<|⟨_,rfl,rfl,hu12⟩
end Go.Proofs.T10
namespace Go.Proofs.T10
open Tryz
set_option maxRecDepth 20000
open Go Go.Kx
theorem C3n(m:Mem){z:Int}(hz:0≤z∧z≤4294967295):Pure prog 273 #[.int .u64 z] m (fun _ u=>∃r:Nat,u=J r∧r≤32∧(1≤z→(2:Int)^r≤2*z)):=by
 refine H7 func273 r' ntmps273 fun wld=>q' 9 r'<|y' (A1S (X.geq rfl rfl) (by omega))<|v' 9 r'<|c' (X.geq r' r') (fun h1=>?_) fun h1=>?_
 ·refine v' 6 r'<|y' (B4n 65536 rfl rfl (by decide) (by decide))<|v' 13 r'<|c' (X.geq r' r') (fun h2=>?_) fun h2=>?_
  ·refine v' 6 r'<|y' (B4n 256 rfl rfl (by decide) (by decide))<|v' 13 r'<|y' (M0 runUnderlying410 runUnderlying5 rfl (A4o (by omega) (by omega)))<|P5 (A4Y 256 B1c runUnderlying9 rfl rfl (by kernel_rfl) (by kernel_rfl) (by omega) (by omega)) (by decide) fun x3 hq4=>?_
   obtain⟨hlb_,hlp_⟩:=A8a hq4.1
   exact y' (M0 runUnderlying5 runUnderlying3 rfl (M9 (by omega) (by omega)))<|v' 5 r'<|A0 r' r'<|C5<|⟨24+x3,A8 (by omega),by omega,fun h_=>B1e 24 (c:=16777216) (by decide) (x:=(z/65536)/256) (by have h1_:=hlp_ (by omega);have h2_:((((z/65536)/256:Int).toNat:Nat):Int)=(z/65536)/256:=(by omega);rw[h2_]at h1_;exact h1_) (by omega) (by omega)⟩
  refine v' 9 r'<|y' (M0 runUnderlying410 runUnderlying5 rfl (A4o (by omega) (by omega)))<|P5 (A4Y 256 B1c runUnderlying9 rfl rfl (by kernel_rfl) (by kernel_rfl) (by omega) (by omega)) (by decide) fun x5 hq6=>?_
  obtain⟨hlb_,hlp_⟩:=A8a hq6.1
  exact y' (M0 runUnderlying5 runUnderlying3 rfl (M9 (by omega) (by omega)))<|v' 5 r'<|A0 r' r'<|C5<|⟨16+x5,A8 (by omega),by omega,fun h_=>B1e 16 (c:=65536) (by decide) (x:=z/65536) (by have h1_:=hlp_ (by omega);have h2_:(((z/65536:Int).toNat:Nat):Int)=z/65536:=(by omega);rw[h2_]at h1_;exact h1_) (by omega) (by omega)⟩
 refine v' 9 r'<|c' (X.geq r' r') (fun h7=>?_) fun h7=>?_
 ·refine v' 6 r'<|y' (B4n 256 rfl rfl (by decide) (by decide))<|v' 13 r'<|y' (M0 runUnderlying410 runUnderlying5 rfl (A4o (by omega) (by omega)))<|P5 (A4Y 256 B1c runUnderlying9 rfl rfl (by kernel_rfl) (by kernel_rfl) (by omega) (by omega)) (by decide) fun x8 hq9=>?_
  obtain⟨hlb_,hlp_⟩:=A8a hq9.1
  exact y' (M0 runUnderlying5 runUnderlying3 rfl (M9 (by omega) (by omega)))<|v' 5 r'<|A0 r' r'<|C5<|⟨8+x8,A8 (by omega),by omega,fun h_=>B1e 8 (c:=256) (by decide) (x:=z/256) (by have h1_:=hlp_ (by omega);have h2_:(((z/256:Int).toNat:Nat):Int)=z/256:=(by omega);rw[h2_]at h1_;exact h1_) (by omega) (by omega)⟩
 refine v' 9 r'<|y' (M0 runUnderlying410 runUnderlying5 rfl (A4o (by omega) (by omega)))<|P5 (A4Y 256 B1c runUnderlying9 rfl rfl (by kernel_rfl) (by kernel_rfl) (by omega) (by omega)) (by decide) fun x10 hq11=>?_
 obtain⟨hlb_,hlp_⟩:=A8a hq11.1
 exact y' (M0 runUnderlying5 runUnderlying3 rfl (M9 (by omega) (by omega)))<|v' 5 r'<|A0 r' r'<|C5<|⟨x10,A8 (by omega),by omega,fun h_=>by have h1_:=hlp_ (by omega);have h2_:(((z:Int).toNat:Nat):Int)=z:=(by omega);rw[h2_]at h1_;exact h1_⟩
theorem B0H(m:Mem){z:Int}(hz:0≤z∧z≤4294967295):Pure prog 225 #[.int .u64 z] m (fun _ u=>∃r:Nat,u=J r∧r≤32∧(1≤z→(2:Int)^r≤2*z)):=by
 refine H7 func225 r' ntmps225 fun wld=>q' 12 r' ?_
 refine D1 (T.call call273 rfl (C3n _ (z:=z) (by omega))) (by decide) (fun m1 _ hle2 hR_=>?_)
 obtain⟨x3,rfl,hr4,hr5⟩:=hR_
 exact v' 4 r'<|A0 r' r'<|C5<|⟨_,rfl,hr4,hr5⟩
end Go.Proofs.T10
namespace Go.Proofs.T10
open Tryz
set_option maxRecDepth 20000
open Go Go.Kx
theorem B9G(m:Mem){z:Int}(hz:1≤z∧z≤1000000):Pure prog 306 #[J z] m (fun _ u=>∃M:Int,u= .int .u64 M∧1≤M∧M≤2*z):=by
 refine H7 func306 r' ntmps306 fun wld=>q' 8 r'<|y' (M0 runUnderlying3 runUnderlying358 rfl (Q1 (by omega) (by omega))) ?_
 refine D1 (T.call call225 rfl (B0H _ (z:=z) (by omega))) (by decide) (fun m1 _ hle2 hR_=>?_)
 obtain⟨x3,rfl,hr4,hr5⟩:=hR_
 refine y' (C2f (r:=x3) rfl rfl (by omega))<|v' 4 r'<|A0 r' r'<|C5 ?_
 refine⟨_,rfl,?_,hr5 hz.1⟩
 have hp_:(0:Int)<2^x3:=Int.pow_pos (by decide)
 omega
theorem C1s(m:Mem){v:Value}{L:List Span}(hL:L.length≤1000000)(hB:bdS L){fc:Nat}{cf:Span→Span→Int}(hC:CmpOk fc cf){a b:Nat}{za zb:Int}(hza:za=a)(hzb:zb=b)(hab:a+12<b)(hbl:b≤L.length):Mut prog 266 #[v,J za,J zb,Fc fc] m [A5 v 23 L] (fun _ Es u=>u= .tuple #[]∧∃R,Es=[A5 v 23 R]∧Seg L R a b):=by
 subst hza
 subst hzb
 refine G3 func266 r' ntmps266 fun wld=>q' 9 r' ?_
 obtain⟨ln_,hln_⟩:∃qq__:Nat,(↑b-↑a:Int)=(qq__:Int):=⟨(↑b-↑a:Int).toNat,(by omega)⟩
 rw[hln_]
 refine q' 2 r'<|y' (A0i (X.geq rfl rfl) (by omega))<|v' 6 r'<|y' (M0 runUnderlying3 runUnderlying439 rfl (Q1 (by omega) (by omega)))<|n' zeroValue439 r' fun b1=>I2 (T.storeB (k:=0) sizeOf439 rfl rfl rfl rfl (Nat.le_of_ble_eq_true rfl))<|v' 5 r' ?_
 refine D1 (T.call call306 rfl (B9G _ (z:=(↑ln_:Int)) (by omega))) (by decide) (fun m2 _ hle3 hR_=>?_)
 obtain⟨w4,rfl,hr5,hr6⟩:=hR_
 refine v' 7 r'<|y' (X.quo rfl rfl (by omega) (by omega) (by omega))<|y' (X.mul rfl rfl (by omega) (by omega))<|v' 6 r' ?_
 obtain⟨x0_,hx0_⟩:∃qq__:Nat,((↑a+((↑ln_/4)*2))-1:Int)=(qq__:Int):=⟨((↑a+((↑ln_/4)*2))-1:Int).toNat,(by omega)⟩
 rw[hx0_]
 refine lq3 (fun(x:Nat) (w:Int) (R:List Span)=>b+2-x) (fun x w R=>[blk b1 439 [.int .u64 (w)],A5 (v) 23 (R)]) (fun x w R=>[(0,v),(1,J a),(8,J ln_),(9,Pt b1 0),(10,.int .u64 (w4)),(11,J x)]) (fun x w R=>(a≤x∧(x:Int)≤a+(ln_:Int)/4*2+2)∧A2i w∧Seg L R a b) x0_ (↑ln_) L ?_ ?_
 ·exact⟨by omega,by unfold A2i;omega,.refl _ _ _⟩
 rintro x w R ⟨hx,hw0_,hS⟩
 refine K6 (fun hgood0=>?_)
 refine have hSl:=hS.len;have hBR:=J0 hB hS.perm;q' 6 r'<|y' (X.quo rfl rfl (by omega) (by omega) (by omega))<|y' (X.mul rfl rfl (by omega) (by omega))<|v' 2 r'<|c' (X.leq r' r') (fun h8=>?_) fun h8=>?_
 ·refine v' 9 r' ?_
  refine C2 (C3 (A:=[A5 (v) 23 (R)]) call307 rfl (.refl _) (B5b _ (z:=w) hw0_)) (by decide) (fun m9 Es_ u_ hle10 hR_=>?_)
  obtain⟨w11,rfl,rfl,hr12⟩:=hR_
  refine v' 1 r'<|y' (B8m rfl rfl (by omega) (by omega))<|P5 (B9d rfl rfl (by unfold A2i;omega)) (by decide) fun w13 hr14=>y' (M0 runUnderlying358 runUnderlying3 rfl (M9 (by omega) (by omega)))<|v' 8 r'<|c' (X.geq r' r') (fun h15=>?_) fun h15=>?_
  ·refine v' 9 r' ?_
   obtain⟨o1_,ho1_⟩:∃qq__:Nat,(w13-↑ln_:Int)=(qq__:Int):=⟨(w13-↑ln_:Int).toNat,(by omega)⟩
   rw[ho1_]
   refine L9<|B4 20 [17,19] [17,19,100005]<|U' 5 r'<|H6 r' r' r' (fun _ _ hle_=>(X.add rfl rfl (by omega) (by omega))) (by decide)<|U' 4 r'<|Y' r' r' (B0 1 (a+o1_))<|Y' r' r' (A.fs 1 (a+o1_) 0 [J (((gt R (a+o1_))).Lo),J (((gt R (a+o1_))).Hi)] r' r' r' r')<|U' 2 r'<|Y' r' r' (B0 1 x)<|Y' r' r' (A.fs 1 (x) 0 [J (((gt R x)).Lo),J (((gt R x)).Hi)] r' r' r' r')<|Y' r' r' (B0 1 x)<|B3 r' r' r' r' (C6 (k:=1) (i:=x) (off:=0) (us:=[J (((gt R (a+o1_))).Lo),J (((gt R (a+o1_))).Hi)]) (gt R (a+o1_)) sizeOf23 rfl rfl rfl rfl (Nat.zero_lt_succ _) rfl (by first|omega|(simp;omega)|simp) rfl rfl (A4 rfl (A4 rfl C0)))<|Y' r' r' (B0 1 (a+o1_))<|B3 r' r' r' r' (C6 (k:=1) (i:=a+o1_) (off:=0) (us:=[J (((gt R x)).Lo),J (((gt R x)).Hi)]) (gt R x) sizeOf23 rfl rfl rfl rfl (Nat.zero_lt_succ _) rfl (by first|omega|(simp;omega)|simp) rfl rfl (A4 rfl (A4 rfl C0)))<|V' 8 r' ?_
   obtain⟨x1_,hx1_⟩:∃qq__:Nat,(↑x+1:Int)=(qq__:Int):=⟨(↑x+1:Int).toNat,(by omega)⟩
   rw[hx1_]
   exact E5 hgood0 hle10<|X1 x1_ w11 ((R.set x (gt R (a+o1_))).set (a+o1_) (gt R x))<|⟨by omega,hr12,hS.tsw (by omega) (by omega) (by omega)⟩
  refine v' 5 r' ?_
  obtain⟨o2_,ho2_⟩:∃qq__:Nat,(w13:Int)=(qq__:Int):=⟨(w13:Int).toNat,(by omega)⟩
  rw[ho2_]
  refine B4 20 [17,19] [17,19,100005]<|U' 5 r'<|H6 r' r' r' (fun _ _ hle_=>(X.add rfl rfl (by omega) (by omega))) (by decide)<|U' 4 r'<|Y' r' r' (B0 1 (a+o2_))<|Y' r' r' (A.fs 1 (a+o2_) 0 [J (((gt R (a+o2_))).Lo),J (((gt R (a+o2_))).Hi)] r' r' r' r')<|U' 2 r'<|Y' r' r' (B0 1 x)<|Y' r' r' (A.fs 1 (x) 0 [J (((gt R x)).Lo),J (((gt R x)).Hi)] r' r' r' r')<|Y' r' r' (B0 1 x)<|B3 r' r' r' r' (C6 (k:=1) (i:=x) (off:=0) (us:=[J (((gt R (a+o2_))).Lo),J (((gt R (a+o2_))).Hi)]) (gt R (a+o2_)) sizeOf23 rfl rfl rfl rfl (Nat.zero_lt_succ _) rfl (by first|omega|(simp;omega)|simp) rfl rfl (A4 rfl (A4 rfl C0)))<|Y' r' r' (B0 1 (a+o2_))<|B3 r' r' r' r' (C6 (k:=1) (i:=a+o2_) (off:=0) (us:=[J (((gt R x)).Lo),J (((gt R x)).Hi)]) (gt R x) sizeOf23 rfl rfl rfl rfl (Nat.zero_lt_succ _) rfl (by first|omega|(simp;omega)|simp) rfl rfl (A4 rfl (A4 rfl C0)))<|V' 8 r' ?_
  obtain⟨x1_,hx1_⟩:∃qq__:Nat,(↑x+1:Int)=(qq__:Int):=⟨(↑x+1:Int).toNat,(by omega)⟩
  rw[hx1_]
  exact E5 hgood0 hle10<|X1 x1_ w11 ((R.set x (gt R (a+o2_))).set (a+o2_) (gt R x))<|⟨by omega,hr12,hS.tsw (by omega) (by omega) (by omega)⟩
 refine v' 7 r' ?_
 refine D9 rfl (fun w' hw'=>B8 (hw'.weaken (.cons _ (.cons_cons _ .slnil))) ?_)
 exact⟨rfl,_,rfl,hS⟩
end Go.Proofs.T10
namespace Go.Proofs.T10
open Tryz
set_option maxRecDepth 20000
open Go Go.Kx
def C1V(k:Nat):Prop:=∀(m:Mem) {v:Value} {L:List Span} {a b:Nat} {ia ib il:Int} {fc:Nat} {cf:Span→Span→Int} (_:L.length≤1000000) (_:bdS L) (_:CmpOk fc cf) (_:ia=a) (_:ib=b) (_:b-a=k) (_:a≤b) (_:b≤L.length) (_:0≤il∧il≤1000) (_:Lb Span.Lo L a b),
 Mut prog 224 #[v,J ia,J ib,J il,Fc fc] m [A5 v 23 L] (fun _ Es u=>u= .tuple #[]∧∃R,Es=[A5 v 23 R]∧Seg L R a b∧Srt Span.Lo R a b)
theorem A2U{G:Prop}(h:G:=by exact⟨fun h_=>by first|(cases h_;done)|exact⟨by omega,of_decide_eq_true h_⟩|exact⟨by omega,by assumption⟩,fun h_ hn_=>by first|(cases h_;done)|exact absurd hn_.2 (of_decide_eq_false h_)|omega|exact absurd hn_.2 (by assumption)⟩):G:=h
theorem B4C(k:Nat)(ih:∀q,q<k→C1V q):C1V k:=by
 intro m v L a b ia ib il fc cf hL hB hC hia hib hk hab hbl hil hLb
 subst hia hib
 refine G3 func224 r' ntmps224 fun wld=>q' 11 r' ?_
 refine lp (G:=Nat×Nat×Int×Bool×Bool×List Span) (fun(x,y,l,wb,wp,R)=>y-x) (fun(x,y,l,wb,wp,R)=>m) (fun(x,y,l,wb,wp,R)=>[A5 (v) 23 (R)]) (fun(x,y,l,wb,wp,R)=>[(0,v),(1,J x),(2,J y),(3,J l),(4,Fc fc),(10,.bool (wb)),(11,.bool (wp))]) (fun(x,y,l,wb,wp,R)=>(a≤x∧x≤y∧y≤b)∧(0≤l∧l≤1000)∧Seg L R a b∧Out Span.Lo R a b x y) ((a,b,il,true,true,L)) ?_ ?_
 ·exact⟨by omega,by omega,.refl _ _ _,.start _ _ _⟩
 rintro⟨x,y,l,wb,wp,R⟩ hF1
 conv=>enter [7];dsimp only
 conv=>enter [8];dsimp only
 try dsimp only at hF1
 obtain⟨hxy,hl,hS,hO⟩:=hF1
 refine K6 (fun hgood0=>?_)
 have hSl:=hS.len
 have hBR:=J0 hB hS.perm
 have hLbR:=hO.lb hLb hS (by omega)
 refine q' 13 r'<|c' (X.leq r' r') (fun h2=>?_) fun h2=>?_
 ·refine v' 9 r' ?_
  refine C2 (C3 (A:=[]) call264 rfl (.refl _) (C6o _ (L:=R) (by omega) (by first|assumption|exact A1I (by assumption) _ _) hC (a:=x) (b:=y) (by omega) (by omega) (by omega) (by omega))) (by decide) (fun m3 Es_ u_ hle4 hR_=>?_)
  obtain⟨rfl,R5,rfl,hR6⟩:=hR_
  exact v' 7 r'<|F1 r'<|G0<|⟨rfl,_,rfl,hS.tw hR6.1 (by omega) (by omega) (by omega),(hO.seg hR6.1 (by omega)).done hR6.2⟩
 refine v' 9 r'<|c' (X.eql r' r') (fun h7=>?_) fun h7=>?_
 ·refine v' 9 r' ?_
  refine C2 (C3 (A:=[]) call265 rfl (.refl _) (C3d _ (L:=R) (by omega) (by first|assumption|exact A1I (by assumption) _ _) hC (a:=x) (b:=y) (by omega) (by omega) (by omega) (by omega))) (by decide) (fun m8 Es_ u_ hle9 hR_=>?_)
  obtain⟨rfl,R10,rfl,hR11⟩:=hR_
  exact v' 7 r'<|F1 r'<|G0<|⟨rfl,_,rfl,hS.tw hR11.1 (by omega) (by omega) (by omega),(hO.seg hR11.1 (by omega)).done hR11.2⟩
 refine v' 5 r' ?_
 refine cu3 (fun(R8:List Span) (l8:Int) (mm8:Mem)=>mm8) (fun R8 l8 mm8=>[A5 (v) 23 (R8)]) (fun R8 l8 mm8=>[(0,v),(1,J x),(2,J y),(3,J l8),(4,Fc fc),(10,.bool (wb)),(11,.bool (wp)),(12,J (↑y-↑x))]) (fun R8 l8 mm8=>m.le mm8∧Seg R R8 x y∧0≤l8∧l8≤1000) ?_ ?_
 ·refine q' 3 r' ?_
  refine K2 (X.not rfl) (by decide) (fun h12=>?_) (fun h12=>?_)
  ·refine v' 9 r' ?_
   refine C2 (C3 (A:=[]) call266 rfl (.refl _) (C1s _ (L:=R) (by omega) (by first|assumption|exact A1I (by assumption) _ _) hC (a:=x) (b:=y) (by omega) (by omega) (by omega) (by omega))) (by decide) (fun m13 Es_ u_ hle14 hR_=>?_)
   obtain⟨rfl,R15,rfl,hR16⟩:=hR_
   exact v' 8 r'<|mt3 R15 (l-1) m13<|⟨hle14,hR16,by omega,by omega⟩
  exact v' 5 r'<|mt3 R l m<|⟨Mem.le_refl _,.refl _ _ _,by omega,by omega⟩
 rintro R8 l8 mm8 ⟨hmm8,hS8,hl80,hl81⟩
 have hSl8:=hS8.len
 have hBR8:=J0 hBR hS8.perm
 have hLb8:=hLbR.seg hS8 (by omega)
 refine q' 6 r' ?_
 refine C2 (C3 (A:=[]) call267 rfl (.refl _) (B9P _ (L:=R8) (by omega) (by first|assumption|exact A1I (by assumption) _ _) hC (a:=x) (b:=y) (by omega) (by omega) (by omega) (by omega))) (by decide) (fun m18 Es_ u_ hle19 hR_=>?_)
 obtain⟨x22,x23,rfl,R20,rfl,hR21⟩:=hR_
 have he24:R20=R8:=hR21.1
 rw[he24]
 refine have hpb_:=hR21.2;v' 7 r' ?_
 refine cu (G:=List Span×Nat×Int×Mem) (fun(R12,p12,h12,mm12)=>mm12) (fun(R12,p12,h12,mm12)=>[A5 (v) 23 (R12)]) (fun(R12,p12,h12,mm12)=>[(0,v),(1,J x),(2,J y),(3,J l8),(4,Fc fc),(10,.bool (wb)),(11,.bool (wp)),(12,J (↑y-↑x)),(13,J p12),(14,J h12)]) (fun(R12,p12,h12,mm12)=>m18.le mm12∧Seg R R12 x y∧x≤p12∧p12<y) ?_ ?_
 ·refine q' 3 r'<|c' (X.eql r' r') (fun h25=>?_) fun h25=>?_
  ·refine v' 9 r' ?_
   refine C2 (C3 (A:=[]) call268 rfl (.refl _) (B6g _ (L:=R8) (by omega) (by first|assumption|exact A1I (by assumption) _ _) hC (a:=x) (b:=y) (by omega) (by omega) (by omega) (by omega))) (by decide) (fun m26 Es_ u_ hle27 hR_=>?_)
   obtain⟨rfl,R28,rfl,hR29⟩:=hR_
   refine v' 12 r' ?_
   obtain⟨pv_,hpv_⟩:∃qq__:Nat,((↑y-1)-(↑x22-↑x):Int)=(qq__:Int):=⟨((↑y-1)-(↑x22-↑x):Int).toNat,(by omega)⟩
   rw[hpv_]
   exact L9<|q' 4 r'<|mt ((R28,pv_,1,m26))<|⟨hle27,(hS8.trans hR29),by omega,by omega⟩
  exact v' 5 r'<|mt ((R8,x22,x23,m18))<|⟨Mem.le_refl _,hS8,by omega,by omega⟩
 rintro⟨R12,p12,h12,mm12⟩ hF30
 obtain⟨hmm12,hS12,hp120,hp121⟩:=hF30
 have hSl12:=hS12.len
 have hBR12:=J0 hBR hS12.perm
 have hLb12:=hLbR.seg hS12 (by omega)
 refine cu2 (fun(R16:List Span) (mm16:Mem)=>mm16) (fun R16 mm16=>[A5 (v) 23 (R16)]) (fun R16 mm16=>[(0,v),(1,J x),(2,J y),(3,J l8),(4,Fc fc),(10,.bool (wb)),(11,.bool (wp)),(12,J (↑y-↑x)),(13,J p12)]) (fun R16 mm16=>mm12.le mm16∧Seg R R16 x y) ?_ ?_
 ·refine q' 3 r' ?_
  refine K2 (X.move rfl) (by decide) (fun h31=>?_) (fun h31=>?_)
  ·refine v' 3 r' ?_
   refine K2 (X.move rfl) (by decide) (fun h32=>?_) (fun h32=>?_)
   ·refine v' 3 r'<|c' (X.eql r' r') (fun h33=>?_) fun h33=>?_
    ·refine v' 10 r' ?_
     refine C2 (C3 (A:=[]) call269 rfl (.refl _) (B7z _ (L:=R12) (by omega) (by first|assumption|exact A1I (by assumption) _ _) hC (a:=x) (b:=y) (by omega) (by omega) (by omega) (by omega) hLb12)) (by decide) (fun m34 Es_ u_ hle35 hR_=>?_)
     obtain⟨x38,rfl,R36,rfl,hR37⟩:=hR_
     refine v' 2 r' ?_
     refine K8 rfl (fun h39=>?_) (fun h39=>?_)
     ·exact q' 5 r'<|F1 r'<|G0<|⟨rfl,_,rfl,hS.tw (hS12.trans hR37.1) (by omega) (by omega) (by omega),(hO.seg (hS12.trans hR37.1) (by omega)).done (hR37.2 (by assumption))⟩
     exact q' 2 r'<|mt2 R36 m34<|⟨hle35,(hS12.trans hR37.1)⟩
    exact v' 6 r'<|mt2 R12 mm12<|⟨Mem.le_refl _,hS12⟩
   exact v' 8 r'<|mt2 R12 mm12<|⟨Mem.le_refl _,hS12⟩
  exact v' 11 r'<|mt2 R12 mm12<|⟨Mem.le_refl _,hS12⟩
 rintro R16 mm16 ⟨hmm16,hS16⟩
 have hSl16:=hS16.len
 have hBR16:=J0 hBR hS16.perm
 have hLb16:=hLbR.seg hS16 (by omega)
 refine q' 1 r' ?_
 refine cu1 (fun(b17_:Bool)=>mm16) (fun b17_=>[A5 (v) 23 (R16)]) (fun b17_=>[(0,v),(1,J x),(2,J y),(3,J l8),(4,Fc fc),(10,.bool (wb)),(11,.bool (wp)),(12,J (↑y-↑x)),(13,J p12),(97,.bool (b17_))]) (fun b17_=>(b17_=true→0<x∧¬cf (gt R16 (x-1)) (gt R16 p12)<0)∧(b17_=false→¬(0<x∧¬cf (gt R16 (x-1)) (gt R16 p12)<0))) ?_ ?_
 ·refine B4 17 [] []<|U' 1 r'<|C' r' r' (X.gtr r' r') (fun h41=>?_) fun h41=>?_
  ·refine U' 5 r'<|Y' r' r' (B0 0 (x-1))<|Y' r' r' (A.fs 0 (x-1) 0 [J (((gt R16 (x-1))).Lo),J (((gt R16 (x-1))).Hi)] r' r' r' r')<|U' 2 r'<|Y' r' r' (B0 0 p12)<|Y' r' r' (A.fs 0 (p12) 0 [J (((gt R16 p12)).Lo),J (((gt R16 p12)).Hi)] r' r' r' r')<|Y' r' r' (D6 hC.1 rfl rfl (hC.2.1 _ (gt R16 (x-1)) (gt R16 p12)))<|C' r' r' (X.lss r' r') (fun h42=>?_) fun h42=>?_
   ·exact U' 2 r'<|V' 1 r'<|I9 false<|A2U
   exact U' 2 r'<|V' 1 r'<|I9 true<|A2U
  exact U' 15 r'<|V' 1 r'<|I9 false<|A2U
 rintro b17_ ⟨hyes17_,hno17_⟩
 refine K8 rfl (fun h44=>?_) (fun h44=>?_)
 ·refine q' 7 r' ?_
  refine C2 (C3 (A:=[]) call270 rfl (.refl _) (B9a _ (L:=R16) (by omega) (by first|assumption|exact A1I (by assumption) _ _) hC (a:=x) (b:=y) (pv:=p12) (by omega) (by omega) (by omega) (by omega) (by omega) (by omega))) (by decide) (fun m45 Es_ u_ hle46 hR_=>?_)
  obtain⟨x49,rfl,R47,rfl,hR48⟩:=hR_
  refine have hEb_:=hR48.bd;have hEl_:=hR48.seg.len;have hEB_:=J0 hBR16 hR48.seg.perm;v' 13 r'<|E5 hgood0 (Mem.le_trans hmm8 (Mem.le_trans hle19 (Mem.le_trans hmm12 (Mem.le_trans hmm16 hle46)))) ?_
  refine nx ((x49,y,l8,wb,wp,R47)) ?_ ?_
  ·exact⟨by have hb_:=hR48.bd;omega,by omega,hS.tw (hS16.trans hR48.seg) (by omega) (by omega) (by omega),C4Y (hO.seg hS16 (by omega)) (by omega) hR48 hLb16 (hyes17_ (by assumption)).1 (fun h_=>(hyes17_ (by assumption)).2 ((hC.cl hBR16).2 h_))⟩
  ((try dsimp only);omega)
 refine q' 9 r' ?_
 refine C2 (C3 (A:=[]) call271 rfl (.refl _) (C3O _ (L:=R16) (by omega) (by first|assumption|exact A1I (by assumption) _ _) hC (a:=x) (b:=y) (pv:=p12) (by omega) (by omega) (by omega) (by omega) (by omega) (by omega))) (by decide) (fun m50 Es_ u_ hle51 hR_=>?_)
 obtain⟨x54,x55,rfl,R52,rfl,hR53⟩:=hR_
 refine have hEb_:=hR53.bd;have hEl_:=hR53.seg.len;have hEB_:=J0 hBR16 hR53.seg.perm;v' 28 r'<|y' (X.quo rfl rfl (by omega) (by omega) (by omega))<|v' 7 r'<|c' (X.lss r' r') (fun h56=>?_) fun h56=>?_
 ·refine v' 7 r'<|c' (X.geq r' r') (fun h57=>?_) fun h57=>?_
  ·refine v' 10 r' ?_
   refine C2 (C3 (A:=[]) call224 rfl (.refl _) (ih (x54-x) (by omega) _ (L:=R52) (a:=x) (b:=x54) (by omega) hEB_ hC (by omega) (by omega) rfl (by omega) (by omega) (by omega) (hR53.lbL hLb16 (by omega)))) (by decide) (fun m58 Es_ _ hle59 hR_=>?_)
   obtain⟨rfl,R60,rfl,hR61⟩:=hR_
   refine v' 9 r'<|E5 hgood0 (Mem.le_trans hmm8 (Mem.le_trans hle19 (Mem.le_trans hmm12 (Mem.le_trans hmm16 (Mem.le_trans hle51 hle59))))) ?_
   refine nx (((x54+1),y,l8,true,x55,R60)) ?_ ?_
   ·exact⟨by have hb_:=hR53.bd;omega,by omega,(hS.tw (hS16.trans hR53.seg) (by omega) (by omega) (by omega)).tw hR61.1 (by omega) (by omega) (by omega),B4e (hO.seg hS16 (by omega)) (by omega) hR53 hR61.1 hR61.2⟩
   ((try dsimp only);omega)
  refine v' 10 r' ?_
  refine C2 (C3 (A:=[]) call224 rfl (.refl _) (ih (x54-x) (by omega) _ (L:=R52) (a:=x) (b:=x54) (by omega) hEB_ hC (by omega) (by omega) rfl (by omega) (by omega) (by omega) (hR53.lbL hLb16 (by omega)))) (by decide) (fun m62 Es_ _ hle63 hR_=>?_)
  obtain⟨rfl,R64,rfl,hR65⟩:=hR_
  refine v' 9 r'<|E5 hgood0 (Mem.le_trans hmm8 (Mem.le_trans hle19 (Mem.le_trans hmm12 (Mem.le_trans hmm16 (Mem.le_trans hle51 hle63))))) ?_
  refine nx (((x54+1),y,l8,false,x55,R64)) ?_ ?_
  ·exact⟨by have hb_:=hR53.bd;omega,by omega,(hS.tw (hS16.trans hR53.seg) (by omega) (by omega) (by omega)).tw hR65.1 (by omega) (by omega) (by omega),B4e (hO.seg hS16 (by omega)) (by omega) hR53 hR65.1 hR65.2⟩
  ((try dsimp only);omega)
 refine v' 7 r'<|c' (X.geq r' r') (fun h66=>?_) fun h66=>?_
 ·refine v' 11 r' ?_
  refine C2 (C3 (A:=[]) call224 rfl (.refl _) (ih (y-(x54+1)) (by omega) _ (L:=R52) (a:=(x54+1)) (b:=y) (by omega) hEB_ hC (by omega) (by omega) rfl (by omega) (by omega) (by omega) hR53.lbR)) (by decide) (fun m67 Es_ _ hle68 hR_=>?_)
  obtain⟨rfl,R69,rfl,hR70⟩:=hR_
  refine v' 8 r'<|E5 hgood0 (Mem.le_trans hmm8 (Mem.le_trans hle19 (Mem.le_trans hmm12 (Mem.le_trans hmm16 (Mem.le_trans hle51 hle68))))) ?_
  refine nx ((x,x54,l8,true,x55,R69)) ?_ ?_
  ·exact⟨by have hb_:=hR53.bd;omega,by omega,(hS.tw (hS16.trans hR53.seg) (by omega) (by omega) (by omega)).tw hR70.1 (by omega) (by omega) (by omega),B1H (hO.seg hS16 (by omega)) (by omega) hR53 hR70.1 hR70.2⟩
  ((try dsimp only);omega)
 refine v' 11 r' ?_
 refine C2 (C3 (A:=[]) call224 rfl (.refl _) (ih (y-(x54+1)) (by omega) _ (L:=R52) (a:=(x54+1)) (b:=y) (by omega) hEB_ hC (by omega) (by omega) rfl (by omega) (by omega) (by omega) hR53.lbR)) (by decide) (fun m71 Es_ _ hle72 hR_=>?_)
 obtain⟨rfl,R73,rfl,hR74⟩:=hR_
 refine v' 8 r'<|E5 hgood0 (Mem.le_trans hmm8 (Mem.le_trans hle19 (Mem.le_trans hmm12 (Mem.le_trans hmm16 (Mem.le_trans hle51 hle72))))) ?_
 refine nx ((x,x54,l8,false,x55,R73)) ?_ ?_
 ·exact⟨by have hb_:=hR53.bd;omega,by omega,(hS.tw (hS16.trans hR53.seg) (by omega) (by omega) (by omega)).tw hR74.1 (by omega) (by omega) (by omega),B1H (hO.seg hS16 (by omega)) (by omega) hR53 hR74.1 hR74.2⟩
 ((try dsimp only);omega)
theorem C5N(k:Nat):C1V k:=Nat.strongRecOn k fun n ih=>B4C n ih
end Go.Proofs.T10
