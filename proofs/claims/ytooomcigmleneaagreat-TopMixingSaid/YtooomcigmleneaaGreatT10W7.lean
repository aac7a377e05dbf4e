import Derived.Test.YtooomcigmleneaaGreatKxW
import Derived.Test.YtooomcigmleneaaGreatKyP
import Derived.Test.YtooomcigmleneaaGreatT10Ty
import Derived.Test.YtooomcigmleneaaGreatKxU
import Derived.Test.YtooomcigmleneaaGreatT10W6
set_option linter.all false
set_option maxHeartbeats 2000000
namespace Go.Proofs.T10
open Tryz
set_option maxRecDepth 20000
open Go Go.Kx
theorem O1{G:Prop}(h:G:=by exact⟨fun h_=>by first|(cases h_;done)|exact⟨by omega,of_decide_eq_true h_⟩|exact⟨by omega,by assumption⟩,fun h_ hn_=>by first|(cases h_;done)|exact absurd hn_.2 (of_decide_eq_false h_)|omega|exact absurd hn_.2 (by assumption)⟩):G:=h
theorem C3O(m:Mem){v:Value}{L:List Span}(hL:L.length≤1000000)(hB:bdS L){fc:Nat}{cf:Span→Span→Int}(hC:CmpOk fc cf){a b pv:Nat}{za zb zpv:Int}(hza:za=a)(hzb:zb=b)(hzpv:zpv=pv)(hap:a≤pv)(hpb:pv<b)(hbl:b≤L.length):Mut prog 271 #[v,J za,J zb,J zpv,Fc fc] m [A5 v 23 L] (fun _ Es u=>∃p:Nat,∃q:Bool,u= .tuple #[J p,.bool q]∧∃R,Es=[A5 v 23 R]∧PtE Span.Lo L R a b p):=by
 subst hza
 subst hzb
 subst hzpv
 refine G3 func271 r' ntmps271 fun wld=>q' 7 r'<|B4 16 [13,15] [13,15]<|U' 6 r'<|Y' r' r' (B0 0 pv)<|Y' r' r' (A.fs 0 (pv) 0 [J (((gt L pv)).Lo),J (((gt L pv)).Hi)] r' r' r' r')<|U' 2 r'<|Y' r' r' (B0 0 a)<|Y' r' r' (A.fs 0 (a) 0 [J (((gt L a)).Lo),J (((gt L a)).Hi)] r' r' r' r')<|Y' r' r' (B0 0 a)<|B3 r' r' r' r' (C6 (k:=0) (i:=a) (off:=0) (us:=[J (((gt L pv)).Lo),J (((gt L pv)).Hi)]) (gt L pv) sizeOf23 rfl rfl rfl rfl (Nat.zero_lt_succ _) rfl (by first|omega|(simp;omega)|simp) rfl rfl (A4 rfl (A4 rfl C0)))<|Y' r' r' (B0 0 pv)<|B3 r' r' r' r' (C6 (k:=0) (i:=pv) (off:=0) (us:=[J (((gt L a)).Lo),J (((gt L a)).Hi)]) (gt L a) sizeOf23 rfl rfl rfl rfl (Nat.zero_lt_succ _) rfl (by first|omega|(simp;omega)|simp) rfl rfl (A4 rfl (A4 rfl C0)))<|V' 2 r' ?_
 obtain⟨R1,hR1⟩:∃qq__:List Span,qq__=(L.set a (gt L pv)).set pv (gt L a):=⟨_,rfl⟩
 have hS1:Seg L R1 a b:=(by rw[hR1];exact .sw (by omega) (by omega) (by omega))
 have he1:((L.set a (gt L pv)).set pv (gt L a))=R1:=hR1.symm
 rw[he1]
 refine have hSl1:=hS1.len;have hBR1:=J0 hB hS1.perm;q' 11 r' ?_
 obtain⟨j0_,hj0_⟩:∃qq__:Nat,(↑b-1:Int)=(qq__:Int):=⟨(↑b-1:Int).toNat,(by omega)⟩
 rw[hj0_]
 obtain rfl:j0_=b-1:=(by omega)
 refine I0 (fun(i:Nat)=>b-i) (fun i=>[A5 (v) 23 (R1)]) (fun i=>[(0,v),(1,J a),(4,Fc fc),(12,J i),(13,J (↑(b-1)))]) (fun i=>PtI Span.Lo L R1 a b i (b-1)) (a+1) ?_ ?_
 ·exact⟨hS1,by omega,fun q h1_ h2_=>by omega,fun q h1_ h2_=>by omega⟩
 rintro i hF2
 try dsimp only at hF2
 refine have hI:=hF2;have hIb:=hI.bd;q' 1 r' ?_
 refine cu1 (fun(b3_:Bool)=>m) (fun b3_=>[A5 (v) 23 (R1)]) (fun b3_=>[(0,v),(1,J a),(4,Fc fc),(12,J i),(13,J (↑(b-1))),(47,.bool (b3_))]) (fun b3_=>(b3_=true→i≤b-1∧cf (gt R1 i) (gt R1 a)<0)∧(b3_=false→¬(i≤b-1∧cf (gt R1 i) (gt R1 a)<0))) ?_ ?_
 ·refine B4 16 [] []<|U' 2 r'<|C' r' r' (X.leq r' r') (fun h3=>?_) fun h3=>?_
  ·refine U' 4 r'<|Y' r' r' (B0 0 i)<|Y' r' r' (A.fs 0 (i) 0 [J (((gt R1 i)).Lo),J (((gt R1 i)).Hi)] r' r' r' r')<|U' 2 r'<|Y' r' r' (B0 0 a)<|Y' r' r' (A.fs 0 (a) 0 [J (((gt R1 a)).Lo),J (((gt R1 a)).Hi)] r' r' r' r')<|Y' r' r' (D6 hC.1 rfl rfl (hC.2.1 _ (gt R1 i) (gt R1 a)))<|C' r' r' (X.lss r' r') (fun h4=>?_) fun h4=>?_
   ·exact U' 1 r'<|V' 1 r'<|I9 true<|O1
   exact U' 1 r'<|V' 1 r'<|I9 false<|O1
  exact U' 13 r'<|V' 1 r'<|I9 false<|O1
 rintro b3_ ⟨hyes3_,hno3_⟩
 refine K8 rfl (fun h6=>?_) (fun h6=>?_)
 ·refine q' 3 r' ?_
  have hy3_:=hyes3_ (by assumption)
  exact q' 7 r'<|G5 (i+1)<|C5m hI (by omega) ((hC.cl hBR1).1 hy3_.2)
 refine q' 7 r' ?_
 refine I0 (fun(j:Nat)=>j) (fun j=>[A5 (v) 23 (R1)]) (fun j=>[(0,v),(1,J a),(4,Fc fc),(12,J i),(13,J j)]) (fun j=>PtI Span.Lo L R1 a b i j∧j≤b-1) (b-1) ?_ ?_
 ·exact⟨hI,Nat.le_refl _⟩
 rintro j ⟨hJ,hjb⟩
 refine have hJb:=hJ.bd;q' 1 r' ?_
 refine cu1 (fun(b5_:Bool)=>m) (fun b5_=>[A5 (v) 23 (R1)]) (fun b5_=>[(0,v),(1,J a),(4,Fc fc),(12,J i),(13,J j),(66,.bool (b5_))]) (fun b5_=>(b5_=true→i≤j∧¬cf (gt R1 j) (gt R1 a)<0)∧(b5_=false→¬(i≤j∧¬cf (gt R1 j) (gt R1 a)<0))) ?_ ?_
 ·refine B4 17 [] []<|U' 2 r'<|C' r' r' (X.leq r' r') (fun h8=>?_) fun h8=>?_
  ·refine U' 4 r'<|Y' r' r' (B0 0 j)<|Y' r' r' (A.fs 0 (j) 0 [J (((gt R1 j)).Lo),J (((gt R1 j)).Hi)] r' r' r' r')<|U' 2 r'<|Y' r' r' (B0 0 a)<|Y' r' r' (A.fs 0 (a) 0 [J (((gt R1 a)).Lo),J (((gt R1 a)).Hi)] r' r' r' r')<|Y' r' r' (D6 hC.1 rfl rfl (hC.2.1 _ (gt R1 j) (gt R1 a)))<|C' r' r' (X.lss r' r') (fun h9=>?_) fun h9=>?_
   ·exact U' 2 r'<|V' 1 r'<|I9 false<|O1
   exact U' 2 r'<|V' 1 r'<|I9 true<|O1
  exact U' 14 r'<|V' 1 r'<|I9 false<|O1
 rintro b5_ ⟨hyes5_,hno5_⟩
 refine K8 rfl (fun h11=>?_) (fun h11=>?_)
 ·refine q' 3 r' ?_
  have hy5_:=hyes5_ (by assumption)
  refine q' 7 r' ?_
  obtain⟨j1_,hj1_⟩:∃qq__:Nat,(↑j-1:Int)=(qq__:Int):=⟨(↑j-1:Int).toNat,(by omega)⟩
  rw[hj1_]
  obtain rfl:j1_=j-1:=(by omega)
  exact G5 (j-1)<|⟨C5T hJ (by omega) (fun h_=>hy5_.2 ((hC.cl hBR1).2 h_)),by omega⟩
 refine q' 10 r'<|c' (X.gtr r' r') (fun h12=>?_) fun h12=>?_
 ·exact v' 4 r'<|B4 16 [13,15] [13,15]<|U' 6 r'<|Y' r' r' (B0 0 a)<|Y' r' r' (A.fs 0 (a) 0 [J (((gt R1 a)).Lo),J (((gt R1 a)).Hi)] r' r' r' r')<|U' 2 r'<|Y' r' r' (B0 0 j)<|Y' r' r' (A.fs 0 (j) 0 [J (((gt R1 j)).Lo),J (((gt R1 j)).Hi)] r' r' r' r')<|Y' r' r' (B0 0 j)<|B3 r' r' r' r' (C6 (k:=0) (i:=j) (off:=0) (us:=[J (((gt R1 a)).Lo),J (((gt R1 a)).Hi)]) (gt R1 a) sizeOf23 rfl rfl rfl rfl (Nat.zero_lt_succ _) rfl (by first|omega|(simp;omega)|simp) rfl rfl (A4 rfl (A4 rfl C0)))<|Y' r' r' (B0 0 a)<|B3 r' r' r' r' (C6 (k:=0) (i:=a) (off:=0) (us:=[J (((gt R1 j)).Lo),J (((gt R1 j)).Hi)]) (gt R1 j) sizeOf23 rfl rfl rfl rfl (Nat.zero_lt_succ _) rfl (by first|omega|(simp;omega)|simp) rfl rfl (A4 rfl (A4 rfl C0)))<|V' 10 r'<|B6 r' r' r'<|G0<|⟨_,_,rfl,_,rfl,B8d hJ hbl (by omega)⟩
 refine v' 6 r'<|B4 16 [13,15] [13,15]<|U' 6 r'<|Y' r' r' (B0 0 j)<|Y' r' r' (A.fs 0 (j) 0 [J (((gt R1 j)).Lo),J (((gt R1 j)).Hi)] r' r' r' r')<|U' 2 r'<|Y' r' r' (B0 0 i)<|Y' r' r' (A.fs 0 (i) 0 [J (((gt R1 i)).Lo),J (((gt R1 i)).Hi)] r' r' r' r')<|Y' r' r' (B0 0 i)<|B3 r' r' r' r' (C6 (k:=0) (i:=i) (off:=0) (us:=[J (((gt R1 j)).Lo),J (((gt R1 j)).Hi)]) (gt R1 j) sizeOf23 rfl rfl rfl rfl (Nat.zero_lt_succ _) rfl (by first|omega|(simp;omega)|simp) rfl rfl (A4 rfl (A4 rfl C0)))<|Y' r' r' (B0 0 j)<|B3 r' r' r' r' (C6 (k:=0) (i:=j) (off:=0) (us:=[J (((gt R1 i)).Lo),J (((gt R1 i)).Hi)]) (gt R1 i) sizeOf23 rfl rfl rfl rfl (Nat.zero_lt_succ _) rfl (by first|omega|(simp;omega)|simp) rfl rfl (A4 rfl (A4 rfl C0)))<|V' 14 r' ?_
 obtain⟨q0_,hq0_⟩:∃qq__:Nat,(↑j-1:Int)=(qq__:Int):=⟨(↑j-1:Int).toNat,(by omega)⟩
 rw[hq0_]
 obtain rfl:q0_=j-1:=(by omega)
 refine L9<|q' 2 r' ?_
 refine lq3 (fun(p:Nat) (q:Nat) (R:List Span)=>q+1-p) (fun p q R=>[A5 (v) 23 (R)]) (fun p q R=>[(0,v),(1,J a),(4,Fc fc),(12,J p),(13,J q)]) (fun p q R=>PtI Span.Lo L R a b p q) (i+1) (j-1) ((R1.set i (gt R1 j)).set j (gt R1 i)) ?_ ?_
 ·exact C2F hJ hbl (by omega) (fun h_=>hno3_ (by assumption) ⟨by omega,(hC.cl hBR1 (i:=i) (j:=a)).2 h_⟩) (Classical.byContradiction fun h_=>hno5_ (by assumption) ⟨by omega,fun h1_=>h_ ((hC.cl hBR1 (i:=j) (j:=a)).1 h1_)⟩)
 rintro p q R hF13
 try dsimp only at hF13
 refine have hP:=hF13;have hPl:=hP.seg.len;have hPb:=hP.bd;have hBR:=J0 hB hP.seg.perm;q' 3 r' ?_
 refine I0 (fun(x:Nat)=>q+1-x) (fun x=>[A5 (v) 23 (R)]) (fun x=>[(0,v),(1,J a),(4,Fc fc),(12,J x),(13,J q)]) (fun x=>PtI Span.Lo L R a b x q∧p≤x) p ?_ ?_
 ·exact⟨hP,Nat.le_refl _⟩
 rintro x ⟨hX,hpx⟩
 refine have hXb:=hX.bd;q' 1 r' ?_
 refine cu1 (fun(b13_:Bool)=>m) (fun b13_=>[A5 (v) 23 (R)]) (fun b13_=>[(0,v),(1,J a),(4,Fc fc),(12,J x),(13,J q),(120,.bool (b13_))]) (fun b13_=>(b13_=true→x≤q∧cf (gt R x) (gt R a)<0)∧(b13_=false→¬(x≤q∧cf (gt R x) (gt R a)<0))) ?_ ?_
 ·refine B4 16 [] []<|U' 2 r'<|C' r' r' (X.leq r' r') (fun h15=>?_) fun h15=>?_
  ·refine U' 4 r'<|Y' r' r' (B0 0 x)<|Y' r' r' (A.fs 0 (x) 0 [J (((gt R x)).Lo),J (((gt R x)).Hi)] r' r' r' r')<|U' 2 r'<|Y' r' r' (B0 0 a)<|Y' r' r' (A.fs 0 (a) 0 [J (((gt R a)).Lo),J (((gt R a)).Hi)] r' r' r' r')<|Y' r' r' (D6 hC.1 rfl rfl (hC.2.1 _ (gt R x) (gt R a)))<|C' r' r' (X.lss r' r') (fun h16=>?_) fun h16=>?_
   ·exact U' 1 r'<|V' 1 r'<|I9 true<|O1
   exact U' 1 r'<|V' 1 r'<|I9 false<|O1
  exact U' 13 r'<|V' 1 r'<|I9 false<|O1
 rintro b13_ ⟨hyes13_,hno13_⟩
 refine K8 rfl (fun h18=>?_) (fun h18=>?_)
 ·refine q' 3 r' ?_
  have hy13_:=hyes13_ (by assumption)
  exact q' 7 r'<|G5 (x+1)<|⟨C5m hX (by omega) ((hC.cl hBR).1 hy13_.2),by omega⟩
 refine q' 7 r' ?_
 refine I0 (fun(y:Nat)=>y) (fun y=>[A5 (v) 23 (R)]) (fun y=>[(0,v),(1,J a),(4,Fc fc),(12,J x),(13,J y)]) (fun y=>PtI Span.Lo L R a b x y∧y≤q) q ?_ ?_
 ·exact⟨hX,Nat.le_refl _⟩
 rintro y ⟨hY,hyq⟩
 refine have hYb:=hY.bd;q' 1 r' ?_
 refine cu1 (fun(b15_:Bool)=>m) (fun b15_=>[A5 (v) 23 (R)]) (fun b15_=>[(0,v),(1,J a),(4,Fc fc),(12,J x),(13,J y),(139,.bool (b15_))]) (fun b15_=>(b15_=true→x≤y∧¬cf (gt R y) (gt R a)<0)∧(b15_=false→¬(x≤y∧¬cf (gt R y) (gt R a)<0))) ?_ ?_
 ·refine B4 17 [] []<|U' 2 r'<|C' r' r' (X.leq r' r') (fun h20=>?_) fun h20=>?_
  ·refine U' 4 r'<|Y' r' r' (B0 0 y)<|Y' r' r' (A.fs 0 (y) 0 [J (((gt R y)).Lo),J (((gt R y)).Hi)] r' r' r' r')<|U' 2 r'<|Y' r' r' (B0 0 a)<|Y' r' r' (A.fs 0 (a) 0 [J (((gt R a)).Lo),J (((gt R a)).Hi)] r' r' r' r')<|Y' r' r' (D6 hC.1 rfl rfl (hC.2.1 _ (gt R y) (gt R a)))<|C' r' r' (X.lss r' r') (fun h21=>?_) fun h21=>?_
   ·exact U' 2 r'<|V' 1 r'<|I9 false<|O1
   exact U' 2 r'<|V' 1 r'<|I9 true<|O1
  exact U' 14 r'<|V' 1 r'<|I9 false<|O1
 rintro b15_ ⟨hyes15_,hno15_⟩
 refine K8 rfl (fun h23=>?_) (fun h23=>?_)
 ·refine q' 3 r' ?_
  have hy15_:=hyes15_ (by assumption)
  refine q' 7 r' ?_
  obtain⟨y1_,hy1_⟩:∃qq__:Nat,(↑y-1:Int)=(qq__:Int):=⟨(↑y-1:Int).toNat,(by omega)⟩
  rw[hy1_]
  obtain rfl:y1_=y-1:=(by omega)
  exact G5 (y-1)<|⟨C5T hY (by omega) (fun h_=>hy15_.2 ((hC.cl hBR).2 h_)),by omega⟩
 refine q' 10 r'<|c' (X.gtr r' r') (fun h24=>?_) fun h24=>?_
 ·exact v' 10 r'<|B4 16 [13,15] [13,15]<|U' 6 r'<|Y' r' r' (B0 0 a)<|Y' r' r' (A.fs 0 (a) 0 [J (((gt R a)).Lo),J (((gt R a)).Hi)] r' r' r' r')<|U' 2 r'<|Y' r' r' (B0 0 y)<|Y' r' r' (A.fs 0 (y) 0 [J (((gt R y)).Lo),J (((gt R y)).Hi)] r' r' r' r')<|Y' r' r' (B0 0 y)<|B3 r' r' r' r' (C6 (k:=0) (i:=y) (off:=0) (us:=[J (((gt R a)).Lo),J (((gt R a)).Hi)]) (gt R a) sizeOf23 rfl rfl rfl rfl (Nat.zero_lt_succ _) rfl (by first|omega|(simp;omega)|simp) rfl rfl (A4 rfl (A4 rfl C0)))<|Y' r' r' (B0 0 a)<|B3 r' r' r' r' (C6 (k:=0) (i:=a) (off:=0) (us:=[J (((gt R y)).Lo),J (((gt R y)).Hi)]) (gt R y) sizeOf23 rfl rfl rfl rfl (Nat.zero_lt_succ _) rfl (by first|omega|(simp;omega)|simp) rfl rfl (A4 rfl (A4 rfl C0)))<|V' 9 r'<|B6 r' r' r'<|G0<|⟨_,_,rfl,_,rfl,B8d hY hbl (by omega)⟩
 refine v' 6 r'<|B4 16 [13,15] [13,15]<|U' 6 r'<|Y' r' r' (B0 0 y)<|Y' r' r' (A.fs 0 (y) 0 [J (((gt R y)).Lo),J (((gt R y)).Hi)] r' r' r' r')<|U' 2 r'<|Y' r' r' (B0 0 x)<|Y' r' r' (A.fs 0 (x) 0 [J (((gt R x)).Lo),J (((gt R x)).Hi)] r' r' r' r')<|Y' r' r' (B0 0 x)<|B3 r' r' r' r' (C6 (k:=0) (i:=x) (off:=0) (us:=[J (((gt R y)).Lo),J (((gt R y)).Hi)]) (gt R y) sizeOf23 rfl rfl rfl rfl (Nat.zero_lt_succ _) rfl (by first|omega|(simp;omega)|simp) rfl rfl (A4 rfl (A4 rfl C0)))<|Y' r' r' (B0 0 y)<|B3 r' r' r' r' (C6 (k:=0) (i:=y) (off:=0) (us:=[J (((gt R x)).Lo),J (((gt R x)).Hi)]) (gt R x) sizeOf23 rfl rfl rfl rfl (Nat.zero_lt_succ _) rfl (by first|omega|(simp;omega)|simp) rfl rfl (A4 rfl (A4 rfl C0)))<|V' 15 r' ?_
 obtain⟨q1_,hq1_⟩:∃qq__:Nat,(↑y-1:Int)=(qq__:Int):=⟨(↑y-1:Int).toNat,(by omega)⟩
 rw[hq1_]
 obtain rfl:q1_=y-1:=(by omega)
 exact X1 (x+1) (y-1) ((R.set x (gt R y)).set y (gt R x))<|C2F hY hbl (by omega) (fun h_=>hno13_ (by assumption) ⟨by omega,(hC.cl hBR (i:=x) (j:=a)).2 h_⟩) (Classical.byContradiction fun h_=>hno15_ (by assumption) ⟨by omega,fun h1_=>h_ ((hC.cl hBR (i:=y) (j:=a)).1 h1_)⟩)
theorem A0k{G:Prop}(h:G:=by exact⟨fun h_=>by first|(cases h_;done)|exact⟨by omega,of_decide_eq_true h_⟩|exact⟨by omega,by assumption⟩,fun h_ hn_=>by first|(cases h_;done)|exact absurd hn_.2 (of_decide_eq_false h_)|omega|exact absurd hn_.2 (by assumption)⟩):G:=h
theorem B9a(m:Mem){v:Value}{L:List Span}(hL:L.length≤1000000)(hB:bdS L){fc:Nat}{cf:Span→Span→Int}(hC:CmpOk fc cf){a b pv:Nat}{za zb zpv:Int}(hza:za=a)(hzb:zb=b)(hzpv:zpv=pv)(hap:a≤pv)(hpb:pv<b)(hbl:b≤L.length):Mut prog 270 #[v,J za,J zb,J zpv,Fc fc] m [A5 v 23 L] (fun _ Es u=>∃p:Nat,u=J p∧∃R,Es=[A5 v 23 R]∧PqE Span.Lo L R a b p pv):=by
 subst hza
 subst hzb
 subst hzpv
 refine G3 func270 r' ntmps270 fun wld=>q' 6 r'<|B4 16 [13,15] [13,15]<|U' 6 r'<|Y' r' r' (B0 0 pv)<|Y' r' r' (A.fs 0 (pv) 0 [J (((gt L pv)).Lo),J (((gt L pv)).Hi)] r' r' r' r')<|U' 2 r'<|Y' r' r' (B0 0 a)<|Y' r' r' (A.fs 0 (a) 0 [J (((gt L a)).Lo),J (((gt L a)).Hi)] r' r' r' r')<|Y' r' r' (B0 0 a)<|B3 r' r' r' r' (C6 (k:=0) (i:=a) (off:=0) (us:=[J (((gt L pv)).Lo),J (((gt L pv)).Hi)]) (gt L pv) sizeOf23 rfl rfl rfl rfl (Nat.zero_lt_succ _) rfl (by first|omega|(simp;omega)|simp) rfl rfl (A4 rfl (A4 rfl C0)))<|Y' r' r' (B0 0 pv)<|B3 r' r' r' r' (C6 (k:=0) (i:=pv) (off:=0) (us:=[J (((gt L a)).Lo),J (((gt L a)).Hi)]) (gt L a) sizeOf23 rfl rfl rfl rfl (Nat.zero_lt_succ _) rfl (by first|omega|(simp;omega)|simp) rfl rfl (A4 rfl (A4 rfl C0)))<|V' 2 r' ?_
 obtain⟨R1,hR1⟩:∃qq__:List Span,qq__=(L.set a (gt L pv)).set pv (gt L a):=⟨_,rfl⟩
 have hS1:Seg L R1 a b:=(by rw[hR1];exact .sw (by omega) (by omega) (by omega))
 have hP1:gt R1 a=gt L pv:=(by rw[hR1];exact C0T (by omega))
 have he1:((L.set a (gt L pv)).set pv (gt L a))=R1:=hR1.symm
 rw[he1]
 refine have hSl1:=hS1.len;q' 11 r' ?_
 obtain⟨j0_,hj0_⟩:∃qq__:Nat,(↑b-1:Int)=(qq__:Int):=⟨(↑b-1:Int).toNat,(by omega)⟩
 rw[hj0_]
 obtain rfl:j0_=b-1:=(by omega)
 refine lq3 (fun(p:Nat) (q:Nat) (R:List Span)=>q+1-p) (fun p q R=>[A5 (v) 23 (R)]) (fun p q R=>[(0,v),(1,J a),(4,Fc fc),(11,J p),(12,J q)]) (fun p q R=>PqI Span.Lo L R a b p q∧(gt R a).Lo=(gt L pv).Lo) (a+1) (b-1) R1 ?_ ?_
 ·exact⟨⟨hS1,by omega,fun q h1_ h2_=>by omega,fun q h1_ h2_=>by omega⟩,by rw[hP1]⟩
 rintro p q R ⟨hP,hE⟩
 refine have hPl:=hP.seg.len;have hPb:=hP.bd;have hBR:=J0 hB hP.seg.perm;q' 3 r' ?_
 refine I0 (fun(x:Nat)=>q+1-x) (fun x=>[A5 (v) 23 (R)]) (fun x=>[(0,v),(1,J a),(4,Fc fc),(11,J x),(12,J q)]) (fun x=>PqI Span.Lo L R a b x q∧p≤x) p ?_ ?_
 ·exact⟨hP,Nat.le_refl _⟩
 rintro x ⟨hX,hpx⟩
 refine have hXb:=hX.bd;q' 1 r' ?_
 refine cu1 (fun(b3_:Bool)=>m) (fun b3_=>[A5 (v) 23 (R)]) (fun b3_=>[(0,v),(1,J a),(4,Fc fc),(11,J x),(12,J q),(47,.bool (b3_))]) (fun b3_=>(b3_=true→x≤q∧¬cf (gt R a) (gt R x)<0)∧(b3_=false→¬(x≤q∧¬cf (gt R a) (gt R x)<0))) ?_ ?_
 ·refine B4 17 [] []<|U' 2 r'<|C' r' r' (X.leq r' r') (fun h4=>?_) fun h4=>?_
  ·refine U' 4 r'<|Y' r' r' (B0 0 a)<|Y' r' r' (A.fs 0 (a) 0 [J (((gt R a)).Lo),J (((gt R a)).Hi)] r' r' r' r')<|U' 2 r'<|Y' r' r' (B0 0 x)<|Y' r' r' (A.fs 0 (x) 0 [J (((gt R x)).Lo),J (((gt R x)).Hi)] r' r' r' r')<|Y' r' r' (D6 hC.1 rfl rfl (hC.2.1 _ (gt R a) (gt R x)))<|C' r' r' (X.lss r' r') (fun h5=>?_) fun h5=>?_
   ·exact U' 2 r'<|V' 1 r'<|I9 false<|A0k
   exact U' 2 r'<|V' 1 r'<|I9 true<|A0k
  exact U' 14 r'<|V' 1 r'<|I9 false<|A0k
 rintro b3_ ⟨hyes3_,hno3_⟩
 refine K8 rfl (fun h7=>?_) (fun h7=>?_)
 ·refine q' 3 r' ?_
  have hy3_:=hyes3_ (by assumption)
  exact q' 7 r'<|G5 (x+1)<|⟨C8b hX (by omega) (fun h_=>hy3_.2 ((hC.cl hBR).2 h_)),by omega⟩
 refine q' 7 r' ?_
 refine I0 (fun(y:Nat)=>y) (fun y=>[A5 (v) 23 (R)]) (fun y=>[(0,v),(1,J a),(4,Fc fc),(11,J x),(12,J y)]) (fun y=>PqI Span.Lo L R a b x y∧y≤q) q ?_ ?_
 ·exact⟨hX,Nat.le_refl _⟩
 rintro y ⟨hY,hyq⟩
 refine have hYb:=hY.bd;q' 1 r' ?_
 refine cu1 (fun(b5_:Bool)=>m) (fun b5_=>[A5 (v) 23 (R)]) (fun b5_=>[(0,v),(1,J a),(4,Fc fc),(11,J x),(12,J y),(65,.bool (b5_))]) (fun b5_=>(b5_=true→x≤y∧cf (gt R a) (gt R y)<0)∧(b5_=false→¬(x≤y∧cf (gt R a) (gt R y)<0))) ?_ ?_
 ·refine B4 16 [] []<|U' 2 r'<|C' r' r' (X.leq r' r') (fun h9=>?_) fun h9=>?_
  ·refine U' 4 r'<|Y' r' r' (B0 0 a)<|Y' r' r' (A.fs 0 (a) 0 [J (((gt R a)).Lo),J (((gt R a)).Hi)] r' r' r' r')<|U' 2 r'<|Y' r' r' (B0 0 y)<|Y' r' r' (A.fs 0 (y) 0 [J (((gt R y)).Lo),J (((gt R y)).Hi)] r' r' r' r')<|Y' r' r' (D6 hC.1 rfl rfl (hC.2.1 _ (gt R a) (gt R y)))<|C' r' r' (X.lss r' r') (fun h10=>?_) fun h10=>?_
   ·exact U' 1 r'<|V' 1 r'<|I9 true<|A0k
   exact U' 1 r'<|V' 1 r'<|I9 false<|A0k
  exact U' 13 r'<|V' 1 r'<|I9 false<|A0k
 rintro b5_ ⟨hyes5_,hno5_⟩
 refine K8 rfl (fun h12=>?_) (fun h12=>?_)
 ·refine q' 3 r' ?_
  have hy5_:=hyes5_ (by assumption)
  refine q' 7 r' ?_
  obtain⟨y1_,hy1_⟩:∃qq__:Nat,(↑y-1:Int)=(qq__:Int):=⟨(↑y-1:Int).toNat,(by omega)⟩
  rw[hy1_]
  obtain rfl:y1_=y-1:=(by omega)
  exact G5 (y-1)<|⟨C8e hY (by omega) ((hC.cl hBR).1 hy5_.2),by omega⟩
 refine q' 10 r'<|c' (X.gtr r' r') (fun h13=>?_) fun h13=>?_
 ·exact v' 16 r'<|A0 r' r'<|G0<|⟨_,rfl,_,rfl,C5P hY hE (by omega)⟩
 refine v' 6 r'<|B4 16 [13,15] [13,15]<|U' 6 r'<|Y' r' r' (B0 0 y)<|Y' r' r' (A.fs 0 (y) 0 [J (((gt R y)).Lo),J (((gt R y)).Hi)] r' r' r' r')<|U' 2 r'<|Y' r' r' (B0 0 x)<|Y' r' r' (A.fs 0 (x) 0 [J (((gt R x)).Lo),J (((gt R x)).Hi)] r' r' r' r')<|Y' r' r' (B0 0 x)<|B3 r' r' r' r' (C6 (k:=0) (i:=x) (off:=0) (us:=[J (((gt R y)).Lo),J (((gt R y)).Hi)]) (gt R y) sizeOf23 rfl rfl rfl rfl (Nat.zero_lt_succ _) rfl (by first|omega|(simp;omega)|simp) rfl rfl (A4 rfl (A4 rfl C0)))<|Y' r' r' (B0 0 y)<|B3 r' r' r' r' (C6 (k:=0) (i:=y) (off:=0) (us:=[J (((gt R x)).Lo),J (((gt R x)).Hi)]) (gt R x) sizeOf23 rfl rfl rfl rfl (Nat.zero_lt_succ _) rfl (by first|omega|(simp;omega)|simp) rfl rfl (A4 rfl (A4 rfl C0)))<|V' 15 r' ?_
 obtain⟨q1_,hq1_⟩:∃qq__:Nat,(↑y-1:Int)=(qq__:Int):=⟨(↑y-1:Int).toNat,(by omega)⟩
 rw[hq1_]
 obtain rfl:q1_=y-1:=(by omega)
 exact X1 (x+1) (y-1) ((R.set x (gt R y)).set y (gt R x))<|⟨C7O hY hbl (by omega) (Classical.byContradiction fun h_=>hno3_ (by assumption) ⟨by omega,fun h1_=>h_ ((hC.cl hBR (i:=a) (j:=x)).1 h1_)⟩) (fun h_=>hno5_ (by assumption) ⟨by omega,(hC.cl hBR (i:=a) (j:=y)).2 h_⟩),(C2Y hY hbl (by omega) (by omega)).trans hE⟩
end Go.Proofs.T10
namespace Go.Proofs.T10
open Tryz
set_option maxRecDepth 20000
open Go Go.Kx
theorem A8V(m:Mem){v:Value}{L:List Span}{b0:Nat}{sw:Int}(hL:L.length≤1000000)(hsw:0≤sw∧sw≤1000){fc:Nat}{cf:Span→Span→Int}(hC:CmpOk fc cf){a b:Nat}{za zb:Int}(hza:za=a)(hzb:zb=b)(ha:a<L.length)(hb:b<L.length):Mut prog 326 #[v,J za,J zb,Pt b0 0,Fc fc] m [A5 v 23 L,blk b0 3 [J sw]] (fun _ Es u=>∃(x y:Nat) (s':Int),u= .tuple #[J (x:Nat),J (y:Nat)]∧Es=[A5 v 23 L,blk b0 3 [J s']]∧((x=a∧y=b)∨(x=b∧y=a))∧sw≤s'∧s'≤sw+1):=by
 subst hza
 subst hzb
 refine G3 func326 r' ntmps326 fun wld=>q' 8 r'<|B4 11 [] []<|U' 3 r'<|Y' r' r' (B0 0 b)<|Y' r' r' (A.fs 0 (b) 0 [J (((gt L b)).Lo),J (((gt L b)).Hi)] r' r' r' r')<|U' 2 r'<|Y' r' r' (B0 0 a)<|Y' r' r' (A.fs 0 (a) 0 [J (((gt L a)).Lo),J (((gt L a)).Hi)] r' r' r' r')<|Y' r' r' (D6 hC.1 rfl rfl (hC.2.1 _ (gt L b) (gt L a)))<|C' r' r' (X.lss r' r') (fun h1=>?_) fun h1=>?_
 ·exact V' 6 r'<|b' 1 r' r' r'<|v' 2 r'<|I2 (T.storeB (k:=1) sizeOf3 rfl rfl rfl rfl (Nat.le_of_ble_eq_true rfl))<|v' 12 r'<|B6 r' r' r'<|G0<|⟨b,a,_,rfl,rfl,by omega,by omega,by omega⟩
 exact V' 13 r'<|B6 r' r' r'<|G0<|⟨a,b,_,rfl,rfl,by omega,by omega,by omega⟩
theorem A7B(m:Mem){v:Value}{L:List Span}{b0:Nat}{sw:Int}(hL:L.length≤1000000)(hsw:0≤sw∧sw≤990){fc:Nat}{cf:Span→Span→Int}(hC:CmpOk fc cf){a b c:Nat}{za zb zc:Int}(hza:za=a)(hzb:zb=b)(hzc:zc=c)(ha:a<L.length)(hb:b<L.length)(hc:c<L.length):Mut prog 309 #[v,J za,J zb,J zc,Pt b0 0,Fc fc] m [A5 v 23 L,blk b0 3 [J sw]] (fun _ Es u=>∃(x:Nat) (s':Int),u=J (x:Nat)∧Es=[A5 v 23 L,blk b0 3 [J s']]∧(x=a∨x=b∨x=c)∧sw≤s'∧s'≤sw+3):=by
 subst hza
 subst hzb
 subst hzc
 refine G3 func309 r' ntmps309 fun wld=>q' 12 r' ?_
 refine C2 (C3 (A:=[]) call326 rfl (.refl _) (A8V _ (L:=L) (sw:=sw) (by omega) (by omega) hC (a:=a) (b:=b) (by omega) (by omega) (by omega) (by omega))) (by decide) (fun m1 Es_ u_ hle2 hR_=>?_)
 obtain⟨x3,x4,w5,rfl,rfl,hr6,hr7⟩:=hR_
 refine v' 14 r' ?_
 refine C2 (C3 (A:=[]) call326 rfl (.refl _) (A8V _ (L:=L) (sw:=w5) (by omega) (by omega) hC (a:=x4) (b:=c) (by omega) (by omega) (by omega) (by omega))) (by decide) (fun m8 Es_ u_ hle9 hR_=>?_)
 obtain⟨x10,x11,w12,rfl,rfl,hr13,hr14⟩:=hR_
 refine v' 14 r' ?_
 refine C2 (C3 (A:=[]) call326 rfl (.refl _) (A8V _ (L:=L) (sw:=w12) (by omega) (by omega) hC (a:=x3) (b:=x10) (by omega) (by omega) (by omega) (by omega))) (by decide) (fun m15 Es_ u_ hle16 hR_=>?_)
 obtain⟨x17,x18,w19,rfl,rfl,hr20,hr21⟩:=hR_
 exact v' 14 r'<|A0 r' r'<|G0<|⟨x18,_,rfl,rfl,by omega,by omega,by omega⟩
theorem A7E(m:Mem){v:Value}{L:List Span}{b0:Nat}{sw:Int}(hL:L.length≤1000000)(hsw:0≤sw∧sw≤980){fc:Nat}{cf:Span→Span→Int}(hC:CmpOk fc cf){a:Nat}{za:Int}(hza:za=a)(ha:1≤a)(hb:a+1<L.length):Mut prog 308 #[v,J za,Pt b0 0,Fc fc] m [A5 v 23 L,blk b0 3 [J sw]] (fun _ Es u=>∃(x:Nat) (s':Int),u=J (x:Nat)∧Es=[A5 v 23 L,blk b0 3 [J s']]∧(x=a-1∨x=a∨x=a+1)∧sw≤s'∧s'≤sw+3):=by
 subst hza
 refine G3 func308 r' ntmps308 fun wld=>q' 15 r' ?_
 refine C2 (C3 (A:=[]) call309 rfl (.refl _) (A7B _ (L:=L) (sw:=sw) (by omega) (by omega) hC (a:=a-1) (b:=a) (c:=a+1) (by omega) (by omega) (by omega) (by omega) (by omega) (by omega))) (by decide) (fun m1 Es_ u_ hle2 hR_=>?_)
 obtain⟨x3,w4,rfl,rfl,hr5,hr6⟩:=hR_
 exact v' 4 r'<|A0 r' r'<|G0<|⟨x3,_,rfl,rfl,by omega,by omega,by omega⟩
theorem B9P(m:Mem){v:Value}{L:List Span}(hL:L.length≤1000000)(hB:bdS L){fc:Nat}{cf:Span→Span→Int}(hC:CmpOk fc cf){a b:Nat}{za zb:Int}(hza:za=a)(hzb:zb=b)(hab:a+12<b)(hbl:b≤L.length):Mut prog 267 #[v,J za,J zb,Fc fc] m [A5 v 23 L] (fun _ Es u=>∃p:Nat,∃h:Int,u= .tuple #[J p,J h]∧∃R,Es=[A5 v 23 R]∧R=L∧a≤p∧p<b):=by
 subst hza
 subst hzb
 refine G3 func267 r' ntmps267 fun wld=>q' 16 r'<|n' zeroValue3 r' fun b1=>v' 6 r'<|y' (X.quo rfl rfl (by omega) (by omega) (by omega))<|y' (X.mul rfl rfl (by omega) (by omega))<|v' 8 r'<|y' (X.quo rfl rfl (by omega) (by omega) (by omega))<|y' (X.mul rfl rfl (by omega) (by omega))<|v' 8 r'<|y' (X.quo rfl rfl (by omega) (by omega) (by omega))<|y' (X.mul rfl rfl (by omega) (by omega))<|v' 8 r'<|y' (A0i (X.geq rfl rfl) (by omega))<|v' 7 r'<|c' (X.geq r' r') (fun h2=>?_) fun h2=>?_
 ·refine v' 8 r' ?_
  refine C2 (I3 [1,0] call308 r' (A7E _ (L:=L) (sw:=0) (by omega) (by omega) hC (a:=(↑a+(((↑b-↑a)/4)*1):Int).toNat) (by omega) (by omega) (by omega))) (by decide) (fun m3 Es_ u_ hle4 hR_=>?_)
  obtain⟨x5,w6,rfl,rfl,hr7,hr8⟩:=hR_
  refine v' 8 r' ?_
  refine C2 (C3 (A:=[]) call308 rfl (.refl _) (A7E _ (L:=L) (sw:=w6) (by omega) (by omega) hC (a:=(↑a+(((↑b-↑a)/4)*2):Int).toNat) (by omega) (by omega) (by omega))) (by decide) (fun m9 Es_ u_ hle10 hR_=>?_)
  obtain⟨x11,w12,rfl,rfl,hr13,hr14⟩:=hR_
  refine v' 7 r' ?_
  refine C2 (C3 (A:=[]) call308 rfl (.refl _) (A7E _ (L:=L) (sw:=w12) (by omega) (by omega) hC (a:=(↑a+(((↑b-↑a)/4)*3):Int).toNat) (by omega) (by omega) (by omega))) (by decide) (fun m15 Es_ u_ hle16 hR_=>?_)
  obtain⟨x17,w18,rfl,rfl,hr19,hr20⟩:=hR_
  refine v' 9 r' ?_
  refine C2 (C3 (A:=[]) call309 rfl (.refl _) (A7B _ (L:=L) (sw:=w18) (by omega) (by omega) hC (a:=x5) (b:=x11) (c:=x17) (by omega) (by omega) (by omega) (by omega) (by omega) (by omega))) (by decide) (fun m21 Es_ u_ hle22 hR_=>?_)
  obtain⟨x23,w24,rfl,rfl,hr25,hr26⟩:=hR_
  refine v' 5 r'<|b' 1 r' r' r'<|v' 5 r'<|c' (X.eql r' r') (fun h27=>?_) fun h27=>?_
  ·refine v' 13 r' ?_
   refine B6 rfl rfl rfl (fun w' hw'=>B8 (hw'.weaken (.cons_cons _ (.cons _ .slnil))) ?_)
   exact⟨_,_,rfl,_,rfl,rfl,by omega,by omega⟩
  refine v' 6 r'<|c' (X.eql r' r') (fun h28=>?_) fun h28=>?_
  ·refine v' 13 r' ?_
   refine B6 rfl rfl rfl (fun w' hw'=>B8 (hw'.weaken (.cons_cons _ (.cons _ .slnil))) ?_)
   exact⟨_,_,rfl,_,rfl,rfl,by omega,by omega⟩
  refine v' 13 r' ?_
  refine B6 rfl rfl rfl (fun w' hw'=>B8 (hw'.weaken (.cons_cons _ (.cons _ .slnil))) ?_)
  exact⟨_,_,rfl,_,rfl,rfl,by omega,by omega⟩
 refine v' 11 r' ?_
 refine C2 (I3 [1,0] call309 r' (A7B _ (L:=L) (sw:=0) (by omega) (by omega) hC (a:=(↑a+(((↑b-↑a)/4)*1):Int).toNat) (b:=(↑a+(((↑b-↑a)/4)*2):Int).toNat) (c:=(↑a+(((↑b-↑a)/4)*3):Int).toNat) (by omega) (by omega) (by omega) (by omega) (by omega) (by omega))) (by decide) (fun m29 Es_ u_ hle30 hR_=>?_)
 obtain⟨x31,w32,rfl,rfl,hr33,hr34⟩:=hR_
 refine v' 5 r'<|b' 1 r' r' r'<|v' 5 r'<|c' (X.eql r' r') (fun h35=>?_) fun h35=>?_
 ·refine v' 13 r' ?_
  refine B6 rfl rfl rfl (fun w' hw'=>B8 (hw'.weaken (.cons_cons _ (.cons _ .slnil))) ?_)
  exact⟨_,_,rfl,_,rfl,rfl,by omega,by omega⟩
 refine v' 6 r'<|c' (X.eql r' r') (fun h36=>?_) fun h36=>?_
 ·refine v' 13 r' ?_
  refine B6 rfl rfl rfl (fun w' hw'=>B8 (hw'.weaken (.cons_cons _ (.cons _ .slnil))) ?_)
  exact⟨_,_,rfl,_,rfl,rfl,by omega,by omega⟩
 refine v' 13 r' ?_
 refine B6 rfl rfl rfl (fun w' hw'=>B8 (hw'.weaken (.cons_cons _ (.cons _ .slnil))) ?_)
 exact⟨_,_,rfl,_,rfl,rfl,by omega,by omega⟩
end Go.Proofs.T10
namespace Go.Proofs.T10
open Tryz
set_option maxRecDepth 20000
open Go Go.Kx
theorem A3J{G:Prop}(h:G:=by exact⟨fun h_=>by first|(cases h_;done)|exact⟨by omega,of_decide_eq_true h_⟩|exact⟨by omega,by assumption⟩,fun h_ hn_=>by first|(cases h_;done)|exact absurd hn_.2 (of_decide_eq_false h_)|omega|exact absurd hn_.2 (by assumption)⟩):G:=h
theorem A3O{G:Prop}(h:G:=by exact⟨_,rfl,_,rfl,hS,fun h_=>by first|(cases h_;done)|(obtain rfl:x=b:=(by omega);exact hX)|contradiction⟩):G:=h
theorem B7z(m:Mem){v:Value}{L:List Span}(hL:L.length≤1000000)(hB:bdS L){fc:Nat}{cf:Span→Span→Int}(hC:CmpOk fc cf){a b:Nat}{za zb:Int}(hza:za=a)(hzb:zb=b)(hab:a+12<b)(hbl:b≤L.length)(hLb:Lb Span.Lo L a b):Mut prog 269 #[v,J za,J zb,Fc fc] m [A5 v 23 L] (fun _ Es u=>∃q:Bool,u= .bool q∧∃R,Es=[A5 v 23 R]∧Seg L R a b∧(q=true→Srt Span.Lo R a b)):=by
 subst hza
 subst hzb
 refine G3 func269 r' ntmps269 fun wld=>q' 19 r' ?_
 refine lq3 (fun(k:Nat) (i:Nat) (R:List Span)=>5-k) (fun k i R=>[A5 (v) 23 (R)]) (fun k i R=>[(0,v),(1,J a),(2,J b),(3,Fc fc),(9,J i),(10,J k)]) (fun k i R=>k≤5∧a+1≤i∧i≤b∧Seg L R a b∧Srt Span.Lo R a i) 0 (a+1) L ?_ ?_
 ·exact⟨by omega,by omega,by omega,.refl _ _ _,.one _ _ _⟩
 rintro k i R ⟨hk,hi1,hi2,hS,hT⟩
 refine have hSl:=hS.len;have hBR:=J0 hB hS.perm;q' 4 r'<|c' (X.lss r' r') (fun h2=>?_) fun h2=>?_
 ·refine v' 9 r' ?_
  refine I0 (fun(x:Nat)=>b-x) (fun x=>[A5 (v) 23 (R)]) (fun x=>[(0,v),(1,J a),(2,J b),(3,Fc fc),(9,J x),(10,J k)]) (fun x=>i≤x∧x≤b∧Srt Span.Lo R a x) i ?_ ?_
  ·exact⟨Nat.le_refl _,by omega,hT⟩
  rintro x ⟨hx1,hx2,hX⟩
  refine q' 1 r' ?_
  refine cu1 (fun(b5_:Bool)=>m) (fun b5_=>[A5 (v) 23 (R)]) (fun b5_=>[(0,v),(1,J a),(2,J b),(3,Fc fc),(9,J x),(10,J k),(36,.bool (b5_))]) (fun b5_=>(b5_=true→x<b∧¬cf (gt R x) (gt R (x-1))<0)∧(b5_=false→¬(x<b∧¬cf (gt R x) (gt R (x-1))<0))) ?_ ?_
  ·refine B4 18 [] []<|U' 2 r'<|C' r' r' (X.lss r' r') (fun h4=>?_) fun h4=>?_
   ·refine U' 4 r'<|Y' r' r' (B0 0 x)<|Y' r' r' (A.fs 0 (x) 0 [J (((gt R x)).Lo),J (((gt R x)).Hi)] r' r' r' r')<|U' 3 r'<|Y' r' r' (B0 0 (x-1))<|Y' r' r' (A.fs 0 (x-1) 0 [J (((gt R (x-1))).Lo),J (((gt R (x-1))).Hi)] r' r' r' r')<|Y' r' r' (D6 hC.1 rfl rfl (hC.2.1 _ (gt R x) (gt R (x-1))))<|C' r' r' (X.lss r' r') (fun h5=>?_) fun h5=>?_
    ·exact U' 2 r'<|V' 1 r'<|I9 false<|A3J
    exact U' 2 r'<|V' 1 r'<|I9 true<|A3J
   exact U' 15 r'<|V' 1 r'<|I9 false<|A3J
  rintro b5_ ⟨hyes5_,hno5_⟩
  refine K8 rfl (fun h7=>?_) (fun h7=>?_)
  ·refine q' 3 r' ?_
   have hy5_:=hyes5_ (by assumption)
   exact q' 7 r'<|G5 (x+1)<|⟨by omega,by omega,hX.more (fun h_=>hy5_.2 ((hC.cl hBR).2 h_))⟩
  refine q' 10 r'<|c' (X.eql r' r') (fun h8=>?_) fun h8=>?_
  ·exact v' 15 r'<|A0 r' r'<|G0<|A3O
  refine v' 11 r'<|c' (X.lss r' r') (fun h9=>?_) fun h9=>?_
  ·exact v' 15 r'<|A0 r' r'<|G0<|A3O
  refine v' 6 r'<|B4 18 [15,17] [15,17,100004]<|U' 4 r'<|H6 r' r' r' (fun _ _ hle_=>(X.sub rfl rfl (by omega) (by omega))) (by decide)<|U' 3 r'<|Y' r' r' (B0 0 (x-1))<|Y' r' r' (A.fs 0 (x-1) 0 [J (((gt R (x-1))).Lo),J (((gt R (x-1))).Hi)] r' r' r' r')<|U' 2 r'<|Y' r' r' (B0 0 x)<|Y' r' r' (A.fs 0 (x) 0 [J (((gt R x)).Lo),J (((gt R x)).Hi)] r' r' r' r')<|Y' r' r' (B0 0 x)<|B3 r' r' r' r' (C6 (k:=0) (i:=x) (off:=0) (us:=[J (((gt R (x-1))).Lo),J (((gt R (x-1))).Hi)]) (gt R (x-1)) sizeOf23 rfl rfl rfl rfl (Nat.zero_lt_succ _) rfl (by first|omega|(simp;omega)|simp) rfl rfl (A4 rfl (A4 rfl C0)))<|Y' r' r' (B0 0 (x-1))<|B3 r' r' r' r' (C6 (k:=0) (i:=x-1) (off:=0) (us:=[J (((gt R x)).Lo),J (((gt R x)).Hi)]) (gt R x) sizeOf23 rfl rfl rfl rfl (Nat.zero_lt_succ _) rfl (by first|omega|(simp;omega)|simp) rfl rfl (A4 rfl (A4 rfl C0)))<|V' 1 r' ?_
  refine cu1 (fun(R2:List Span)=>m) (fun R2=>[A5 (v) 23 (R2)]) (fun R2=>[(0,v),(1,J a),(2,J b),(3,Fc fc),(9,J x),(10,J k)]) (fun R2=>Seg L R2 a b∧Srt Span.Lo R2 a x) ?_ ?_
  ·refine q' 1 r' ?_
   obtain⟨R1,hR1⟩:∃qq__:List Span,qq__=(R.set x (gt R (x-1))).set (x-1) (gt R x):=⟨_,rfl⟩
   have hS1:Seg L R1 a b:=(by rw[hR1];exact hS.tsw (by omega) (by omega) (by omega))
   have hT1:Srt Span.Lo R1 a (x-1):=(by rw[hR1];exact hX.swp (by omega))
   have he10:((R.set x (gt R (x-1))).set (x-1) (gt R x))=R1:=hR1.symm
   rw[he10]
   refine have hSl1:=hS1.len;have hBR1:=J0 hB hS1.perm;q' 4 r'<|c' (X.geq r' r') (fun h11=>?_) fun h11=>?_
   ·refine v' 11 r' ?_
    obtain⟨y0_,hy0_⟩:∃qq__:Nat,(↑x-1:Int)=(qq__:Int):=⟨(↑x-1:Int).toNat,(by omega)⟩
    rw[hy0_]
    obtain rfl:y0_=x-1:=(by omega)
    refine O6 (fun(y:Nat) (R:List Span)=>y) (fun y R=>[A5 (v) 23 (R)]) (fun y R=>[(0,v),(1,J a),(2,J b),(3,Fc fc),(9,J x),(10,J k),(11,J y)]) (fun y R=>InsS Span.Lo L R a b (x-1) y) (x-1) R1 ?_ ?_
    ·exact B0s hS1 hT1 (by omega)
    rintro y R hF12
    try dsimp only at hF12
    refine have hI:=hF12;have hIl:=hI.seg.len;have hIb:=hI.bd;have hBR:=J0 hB hI.seg.perm;q' 4 r'<|c' (X.geq r' r') (fun h13=>?_) fun h13=>?_
    ·refine v' 9 r'<|B4 13 [] []<|U' 3 r'<|Y' r' r' (B0 0 y)<|Y' r' r' (A.fs 0 (y) 0 [J (((gt R y)).Lo),J (((gt R y)).Hi)] r' r' r' r')<|U' 3 r'<|Y' r' r' (B0 0 (y-1))<|Y' r' r' (A.fs 0 (y-1) 0 [J (((gt R (y-1))).Lo),J (((gt R (y-1))).Hi)] r' r' r' r')<|Y' r' r' (D6 hC.1 rfl rfl (hC.2.1 _ (gt R y) (gt R (y-1))))<|C' r' r' (X.lss r' r') (fun h14=>?_) fun h14=>?_
     ·refine U' 1 r'<|V' 4 r'<|B4 18 [15,17] [15,17,100004]<|U' 4 r'<|H6 r' r' r' (fun _ _ hle_=>(X.sub rfl rfl (by omega) (by omega))) (by decide)<|U' 3 r'<|Y' r' r' (B0 0 (y-1))<|Y' r' r' (A.fs 0 (y-1) 0 [J (((gt R (y-1))).Lo),J (((gt R (y-1))).Hi)] r' r' r' r')<|U' 2 r'<|Y' r' r' (B0 0 y)<|Y' r' r' (A.fs 0 (y) 0 [J (((gt R y)).Lo),J (((gt R y)).Hi)] r' r' r' r')<|Y' r' r' (B0 0 y)<|B3 r' r' r' r' (C6 (k:=0) (i:=y) (off:=0) (us:=[J (((gt R (y-1))).Lo),J (((gt R (y-1))).Hi)]) (gt R (y-1)) sizeOf23 rfl rfl rfl rfl (Nat.zero_lt_succ _) rfl (by first|omega|(simp;omega)|simp) rfl rfl (A4 rfl (A4 rfl C0)))<|Y' r' r' (B0 0 (y-1))<|B3 r' r' r' r' (C6 (k:=0) (i:=y-1) (off:=0) (us:=[J (((gt R y)).Lo),J (((gt R y)).Hi)]) (gt R y) sizeOf23 rfl rfl rfl rfl (Nat.zero_lt_succ _) rfl (by first|omega|(simp;omega)|simp) rfl rfl (A4 rfl (A4 rfl C0)))<|V' 8 r' ?_
      obtain⟨y1_,hy1_⟩:∃qq__:Nat,(↑y-1:Int)=(qq__:Int):=⟨(↑y-1:Int).toNat,(by omega)⟩
      rw[hy1_]
      obtain rfl:y1_=y-1:=(by omega)
      exact J7 (y-1) ((R.set y (gt R (y-1))).set (y-1) (gt R y))<|B1Y hI hbl (hI.stop hLb hbl (by omega) ((hC.cl hBR).1 (by assumption))) ((hC.cl hBR).1 (by assumption))
     refine U' 1 r'<|V' 9 r'<|I9 R ?_
     have hfin_:=A6w hI (fun h_ hc_=>by first|omega|(have h1_:=(hC.cl hBR).2 hc_;contradiction))
     exact⟨hfin_.1,by have h2_:=hfin_.2;rwa [show x-1+1=x by omega]at h2_⟩
    refine v' 8 r'<|I9 R ?_
    have hfin_:=A6w hI (fun h_ hc_=>by first|omega|(have h1_:=(hC.cl hBR).2 hc_;contradiction))
    exact⟨hfin_.1,by have h2_:=hfin_.2;rwa [show x-1+1=x by omega]at h2_⟩
   exact v' 5 r'<|I9 R1<|⟨hS1,by obtain rfl:x=a+1:=(by omega);exact .one _ _ _⟩
  rintro R2 ⟨hS2,hT2⟩
  refine have hSl2:=hS2.len;have hBR2:=J0 hB hS2.perm;q' 5 r'<|c' (X.geq r' r') (fun h16=>?_) fun h16=>?_
  ·refine v' 11 r' ?_
   refine O6 (fun(z:Nat) (R:List Span)=>b-z) (fun z R=>[A5 (v) 23 (R)]) (fun z R=>[(0,v),(1,J a),(2,J b),(3,Fc fc),(9,J x),(10,J k),(12,J z)]) (fun z R=>x+1≤z∧Seg L R a b∧Srt Span.Lo R a x) (x+1) R2 ?_ ?_
   ·exact⟨by omega,hS2,hT2⟩
   rintro z R ⟨hz,hSz,hTz⟩
   refine have hSlz:=hSz.len;have hBR:=J0 hB hSz.perm;q' 5 r'<|c' (X.lss r' r') (fun h18=>?_) fun h18=>?_
   ·refine v' 9 r'<|B4 13 [] []<|U' 3 r'<|Y' r' r' (B0 0 z)<|Y' r' r' (A.fs 0 (z) 0 [J (((gt R z)).Lo),J (((gt R z)).Hi)] r' r' r' r')<|U' 3 r'<|Y' r' r' (B0 0 (z-1))<|Y' r' r' (A.fs 0 (z-1) 0 [J (((gt R (z-1))).Lo),J (((gt R (z-1))).Hi)] r' r' r' r')<|Y' r' r' (D6 hC.1 rfl rfl (hC.2.1 _ (gt R z) (gt R (z-1))))<|C' r' r' (X.lss r' r') (fun h19=>?_) fun h19=>?_
    ·exact U' 1 r'<|V' 4 r'<|B4 18 [15,17] [15,17,100004]<|U' 4 r'<|H6 r' r' r' (fun _ _ hle_=>(X.sub rfl rfl (by omega) (by omega))) (by decide)<|U' 3 r'<|Y' r' r' (B0 0 (z-1))<|Y' r' r' (A.fs 0 (z-1) 0 [J (((gt R (z-1))).Lo),J (((gt R (z-1))).Hi)] r' r' r' r')<|U' 2 r'<|Y' r' r' (B0 0 z)<|Y' r' r' (A.fs 0 (z) 0 [J (((gt R z)).Lo),J (((gt R z)).Hi)] r' r' r' r')<|Y' r' r' (B0 0 z)<|B3 r' r' r' r' (C6 (k:=0) (i:=z) (off:=0) (us:=[J (((gt R (z-1))).Lo),J (((gt R (z-1))).Hi)]) (gt R (z-1)) sizeOf23 rfl rfl rfl rfl (Nat.zero_lt_succ _) rfl (by first|omega|(simp;omega)|simp) rfl rfl (A4 rfl (A4 rfl C0)))<|Y' r' r' (B0 0 (z-1))<|B3 r' r' r' r' (C6 (k:=0) (i:=z-1) (off:=0) (us:=[J (((gt R z)).Lo),J (((gt R z)).Hi)]) (gt R z) sizeOf23 rfl rfl rfl rfl (Nat.zero_lt_succ _) rfl (by first|omega|(simp;omega)|simp) rfl rfl (A4 rfl (A4 rfl C0)))<|V' 8 r'<|J7 (z+1) ((R.set z (gt R (z-1))).set (z-1) (gt R z))<|⟨by omega,hSz.tsw (by omega) (by omega) hbl,hTz.out (b:=b) (by omega) (by omega) (by omega)⟩
    exact U' 1 r'<|V' 16 r'<|X1 (k+1) x R<|⟨by omega,by omega,by omega,hSz,hTz⟩
   exact v' 15 r'<|X1 (k+1) x R<|⟨by omega,by omega,by omega,hSz,hTz⟩
  exact v' 12 r'<|X1 (k+1) x R2<|⟨by omega,by omega,by omega,hS2,hT2⟩
 exact v' 14 r'<|A0 r' r'<|G0<|A3O
end Go.Proofs.T10
