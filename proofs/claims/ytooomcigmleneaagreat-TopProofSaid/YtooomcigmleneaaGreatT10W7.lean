import Derived.Test.YtooomcigmleneaaGreatT10W6
set_option linter.all false
set_option maxHeartbeats 2000000
namespace Go.Proofs.T10
open Tryz Go Go.Kx
set_option maxRecDepth 20000
theorem Q3{G:Prop}(h:G:=by exact⟨fun h_=>by first|(cases h_;done)|exact⟨by omega,Sv h_⟩|exact⟨by omega,by assumption⟩,fun h_ hn_=>by first|(cases h_;done)|exact absurd hn_.2 (Th h_)|omega|exact absurd hn_.2 ‹_›⟩):G:=h
theorem B1o(m:Mem){v:Value}{L:List Span}(hL:L.length≤4000000000)(hB:Cz L){fc:Nat}{cf:Span→Span→Int}(hC:CmpOk fc cf){a b pv:Nat}{za zb zpv:Int}(hza:za=a)(hzb:zb=b)(hzpv:zpv=pv)(hap:a≤pv)(hpb:pv<b)(hbl:b≤L.length):Mut prog 271 #[v,J za,J zb,J zpv,Fc fc] m [A5 v 23 L] (fun _ Es u=>∃p:Nat,∃q:Bool,u= .tuple #[J p,.bool q]∧∃R,Es=[A5 v 23 R]∧PtE Span.Lo L R a b p):=by
 subst hza
 subst hzb
 subst hzpv
 refine G3 func271 O ntmps271 fun b6=>q' 7 O<|B9 16 [13,15] [13,15]<|U' 6 O<|Z O O (A9 0 pv)<|Z O O (A.fs 0 (pv) 0 [J (((gt L pv)).Lo),J (((gt L pv)).Hi)] O O O O)<|U' 2 O<|Z O O (A9 0 a)<|Z O O (A.fs 0 (a) 0 [J (((gt L a)).Lo),J (((gt L a)).Hi)] O O O O)<|Z O O (A9 0 a)<|B4 O O O O (D3 (k:=0) (i:=a) (off:=0) (us:=[J (((gt L pv)).Lo),J (((gt L pv)).Hi)]) (gt L pv) sizeOf23 rfl rfl rfl rfl (O' _) rfl (by first|omega|(simp;omega)|simp) rfl rfl (A4 rfl (A4 rfl C6)))<|Z O O (A9 0 pv)<|B4 O O O O (D3 (k:=0) (i:=pv) (off:=0) (us:=[J (((gt L a)).Lo),J (((gt L a)).Hi)]) (gt L a) sizeOf23 rfl rfl rfl rfl (O' _) rfl (by first|omega|(simp;omega)|simp) rfl rfl (A4 rfl (A4 rfl C6)))<|V' 2 O ?_
 obtain⟨R1,K⟩:∃qq__:List Span,qq__=(L.set a (gt L pv)).set pv (gt L a):=⟨_,rfl⟩
 have C:Seg L R1 a b:=(by rw[K];exact .sw (by omega) (by omega) (by omega))
 have a9:((L.set a (gt L pv)).set pv (gt L a))=R1:=K.symm
 rw[a9]
 refine have b5:=C.len;have l:=K8 hB C.perm;q' 11 O ?_
 obtain⟨b0,M⟩:∃qq__:Nat,(↑b-1:Int)=(qq__:Int):=⟨(↑b-1:Int).toNat,(by omega)⟩
 rw[M]
 obtain rfl:b0=b-1:=(by omega)
 refine J4 (fun(i:Nat)=>b-i) (fun i=>[A5 (v) 23 (R1)]) (fun i=>[(0,v),(1,J a),(4,Fc fc),(12,J i),(13,J (↑(b-1)))]) (fun i=>PtI Span.Lo L R1 a b i (b-1)) (a+1) ?_ ?_
 ·exact⟨C,by omega,fun q h1_ h2_=>by omega,fun q h1_ h2_=>by omega⟩
 rintro i N
 try dsimp only at N
 refine have hI:=N;have b7:=hI.bd;q' 1 O ?_
 refine Bm (fun(f:Bool)=>m) (fun f=>[A5 (v) 23 (R1)]) (fun f=>[(0,v),(1,J a),(4,Fc fc),(12,J i),(13,J (↑(b-1))),(47,.bool (f))]) (fun f=>(f=true→i≤b-1∧cf (gt R1 i) (gt R1 a)<0)∧(f=false→¬(i≤b-1∧cf (gt R1 i) (gt R1 a)<0))) ?_ ?_
 ·refine B9 16 [] []<|U' 2 O<|C' O O (X.leq O O) (fun h3=>?_) fun h3=>?_
  ·refine U' 4 O<|Z O O (A9 0 i)<|Z O O (A.fs 0 (i) 0 [J (((gt R1 i)).Lo),J (((gt R1 i)).Hi)] O O O O)<|U' 2 O<|Z O O (A9 0 a)<|Z O O (A.fs 0 (a) 0 [J (((gt R1 a)).Lo),J (((gt R1 a)).Hi)] O O O O)<|Z O O (E1 hC.1 rfl rfl (hC.2.1 _ (gt R1 i) (gt R1 a)))<|C' O O (X.lss O O) (fun h4=>?_) fun h4=>?_
   ·exact U' 1 O<|V' 1 O<|H5 true<|Q3
   exact U' 1 O<|V' 1 O<|H5 false<|Q3
  exact U' 13 O<|V' 1 O<|H5 false<|Q3
 rintro f ⟨s,F⟩
 refine L1 rfl (fun h6=>?_) (fun h6=>?_)
 ·refine q' 3 O ?_
  have H:=s ‹_›
  exact q' 7 O<|I6 (i+1)<|B4o hI (by omega) ((hC.cl l).1 H.2)
 refine q' 7 O ?_
 refine J4 (fun(j:Nat)=>j) (fun j=>[A5 (v) 23 (R1)]) (fun j=>[(0,v),(1,J a),(4,Fc fc),(12,J i),(13,J j)]) (fun j=>PtI Span.Lo L R1 a b i j∧j≤b-1) (b-1) ?_ ?_
 ·exact⟨hI,E' _⟩
 rintro j ⟨W,c3⟩
 refine have b8:=W.bd;q' 1 O ?_
 refine Bm (fun(g:Bool)=>m) (fun g=>[A5 (v) 23 (R1)]) (fun g=>[(0,v),(1,J a),(4,Fc fc),(12,J i),(13,J j),(66,.bool (g))]) (fun g=>(g=true→i≤j∧¬cf (gt R1 j) (gt R1 a)<0)∧(g=false→¬(i≤j∧¬cf (gt R1 j) (gt R1 a)<0))) ?_ ?_
 ·refine B9 17 [] []<|U' 2 O<|C' O O (X.leq O O) (fun h8=>?_) fun h8=>?_
  ·refine U' 4 O<|Z O O (A9 0 j)<|Z O O (A.fs 0 (j) 0 [J (((gt R1 j)).Lo),J (((gt R1 j)).Hi)] O O O O)<|U' 2 O<|Z O O (A9 0 a)<|Z O O (A.fs 0 (a) 0 [J (((gt R1 a)).Lo),J (((gt R1 a)).Hi)] O O O O)<|Z O O (E1 hC.1 rfl rfl (hC.2.1 _ (gt R1 j) (gt R1 a)))<|C' O O (X.lss O O) (fun h9=>?_) fun h9=>?_
   ·exact U' 2 O<|V' 1 O<|H5 false<|Q3
   exact U' 2 O<|V' 1 O<|H5 true<|Q3
  exact U' 14 O<|V' 1 O<|H5 false<|Q3
 rintro g ⟨t,G⟩
 refine L1 rfl (fun a0=>?_) (fun a0=>?_)
 ·refine q' 3 O ?_
  have I:=t ‹_›
  refine q' 7 O ?_
  obtain⟨b1,P⟩:∃qq__:Nat,(↑j-1:Int)=(qq__:Int):=⟨(↑j-1:Int).toNat,(by omega)⟩
  rw[P]
  obtain rfl:b1=j-1:=(by omega)
  exact I6 (j-1)<|⟨B4m W (by omega) (fun n=>I.2 ((hC.cl l).2 n)),by omega⟩
 refine q' 10 O<|c' (X.gtr O O) (fun a1=>?_) fun a1=>?_
 ·exact U 4 O<|B9 16 [13,15] [13,15]<|U' 6 O<|Z O O (A9 0 a)<|Z O O (A.fs 0 (a) 0 [J (((gt R1 a)).Lo),J (((gt R1 a)).Hi)] O O O O)<|U' 2 O<|Z O O (A9 0 j)<|Z O O (A.fs 0 (j) 0 [J (((gt R1 j)).Lo),J (((gt R1 j)).Hi)] O O O O)<|Z O O (A9 0 j)<|B4 O O O O (D3 (k:=0) (i:=j) (off:=0) (us:=[J (((gt R1 a)).Lo),J (((gt R1 a)).Hi)]) (gt R1 a) sizeOf23 rfl rfl rfl rfl (O' _) rfl (by first|omega|(simp;omega)|simp) rfl rfl (A4 rfl (A4 rfl C6)))<|Z O O (A9 0 a)<|B4 O O O O (D3 (k:=0) (i:=a) (off:=0) (us:=[J (((gt R1 j)).Lo),J (((gt R1 j)).Hi)]) (gt R1 j) sizeOf23 rfl rfl rfl rfl (O' _) rfl (by first|omega|(simp;omega)|simp) rfl rfl (A4 rfl (A4 rfl C6)))<|V' 10 O<|B7 O O O<|I2<|⟨_,_,rfl,_,rfl,A6N W hbl (by omega)⟩
 refine U 6 O<|B9 16 [13,15] [13,15]<|U' 6 O<|Z O O (A9 0 j)<|Z O O (A.fs 0 (j) 0 [J (((gt R1 j)).Lo),J (((gt R1 j)).Hi)] O O O O)<|U' 2 O<|Z O O (A9 0 i)<|Z O O (A.fs 0 (i) 0 [J (((gt R1 i)).Lo),J (((gt R1 i)).Hi)] O O O O)<|Z O O (A9 0 i)<|B4 O O O O (D3 (k:=0) (i:=i) (off:=0) (us:=[J (((gt R1 j)).Lo),J (((gt R1 j)).Hi)]) (gt R1 j) sizeOf23 rfl rfl rfl rfl (O' _) rfl (by first|omega|(simp;omega)|simp) rfl rfl (A4 rfl (A4 rfl C6)))<|Z O O (A9 0 j)<|B4 O O O O (D3 (k:=0) (i:=j) (off:=0) (us:=[J (((gt R1 i)).Lo),J (((gt R1 i)).Hi)]) (gt R1 i) sizeOf23 rfl rfl rfl rfl (O' _) rfl (by first|omega|(simp;omega)|simp) rfl rfl (A4 rfl (A4 rfl C6)))<|V' 14 O ?_
 obtain⟨b2,Q⟩:∃qq__:Nat,(↑j-1:Int)=(qq__:Int):=⟨(↑j-1:Int).toNat,(by omega)⟩
 rw[Q]
 obtain rfl:b2=j-1:=(by omega)
 refine E2<|q' 2 O ?_
 refine Di (fun(p:Nat) (q:Nat) (R:List Span)=>q+1-p) (fun p q R=>[A5 (v) 23 (R)]) (fun p q R=>[(0,v),(1,J a),(4,Fc fc),(12,J p),(13,J q)]) (fun p q R=>PtI Span.Lo L R a b p q) (i+1) (j-1) ((R1.set i (gt R1 j)).set j (gt R1 i)) ?_ ?_
 ·exact B0d W hbl (by omega) (fun n=>F ‹_› ⟨by omega,(hC.cl l (i:=i) (j:=a)).2 n⟩) (Sj fun n=>G ‹_› ⟨by omega,fun h1_=>n ((hC.cl l (i:=j) (j:=a)).1 h1_)⟩)
 rintro p q R B
 try dsimp only at B
 refine have V:=B;have b9:=V.seg.len;have c0:=V.bd;have hBR:=K8 hB V.seg.perm;q' 3 O ?_
 refine J4 (fun(x:Nat)=>q+1-x) (fun x=>[A5 (v) 23 (R)]) (fun x=>[(0,v),(1,J a),(4,Fc fc),(12,J x),(13,J q)]) (fun x=>PtI Span.Lo L R a b x q∧p≤x) p ?_ ?_
 ·exact⟨V,E' _⟩
 rintro x ⟨hX,c4⟩
 refine have c1:=hX.bd;q' 1 O ?_
 refine Bm (fun(c:Bool)=>m) (fun c=>[A5 (v) 23 (R)]) (fun c=>[(0,v),(1,J a),(4,Fc fc),(12,J x),(13,J q),(120,.bool (c))]) (fun c=>(c=true→x≤q∧cf (gt R x) (gt R a)<0)∧(c=false→¬(x≤q∧cf (gt R x) (gt R a)<0))) ?_ ?_
 ·refine B9 16 [] []<|U' 2 O<|C' O O (X.leq O O) (fun a2=>?_) fun a2=>?_
  ·refine U' 4 O<|Z O O (A9 0 x)<|Z O O (A.fs 0 (x) 0 [J (((gt R x)).Lo),J (((gt R x)).Hi)] O O O O)<|U' 2 O<|Z O O (A9 0 a)<|Z O O (A.fs 0 (a) 0 [J (((gt R a)).Lo),J (((gt R a)).Hi)] O O O O)<|Z O O (E1 hC.1 rfl rfl (hC.2.1 _ (gt R x) (gt R a)))<|C' O O (X.lss O O) (fun a3=>?_) fun a3=>?_
   ·exact U' 1 O<|V' 1 O<|H5 true<|Q3
   exact U' 1 O<|V' 1 O<|H5 false<|Q3
  exact U' 13 O<|V' 1 O<|H5 false<|Q3
 rintro c ⟨o,w⟩
 refine L1 rfl (fun a4=>?_) (fun a4=>?_)
 ·refine q' 3 O ?_
  have D:=o ‹_›
  exact q' 7 O<|I6 (x+1)<|⟨B4o hX (by omega) ((hC.cl hBR).1 D.2),by omega⟩
 refine q' 7 O ?_
 refine J4 (fun(y:Nat)=>y) (fun y=>[A5 (v) 23 (R)]) (fun y=>[(0,v),(1,J a),(4,Fc fc),(12,J x),(13,J y)]) (fun y=>PtI Span.Lo L R a b x y∧y≤q) q ?_ ?_
 ·exact⟨hX,E' _⟩
 rintro y ⟨Y,c5⟩
 refine have c2:=Y.bd;q' 1 O ?_
 refine Bm (fun(d:Bool)=>m) (fun d=>[A5 (v) 23 (R)]) (fun d=>[(0,v),(1,J a),(4,Fc fc),(12,J x),(13,J y),(139,.bool (d))]) (fun d=>(d=true→x≤y∧¬cf (gt R y) (gt R a)<0)∧(d=false→¬(x≤y∧¬cf (gt R y) (gt R a)<0))) ?_ ?_
 ·refine B9 17 [] []<|U' 2 O<|C' O O (X.leq O O) (fun a5=>?_) fun a5=>?_
  ·refine U' 4 O<|Z O O (A9 0 y)<|Z O O (A.fs 0 (y) 0 [J (((gt R y)).Lo),J (((gt R y)).Hi)] O O O O)<|U' 2 O<|Z O O (A9 0 a)<|Z O O (A.fs 0 (a) 0 [J (((gt R a)).Lo),J (((gt R a)).Hi)] O O O O)<|Z O O (E1 hC.1 rfl rfl (hC.2.1 _ (gt R y) (gt R a)))<|C' O O (X.lss O O) (fun a6=>?_) fun a6=>?_
   ·exact U' 2 O<|V' 1 O<|H5 false<|Q3
   exact U' 2 O<|V' 1 O<|H5 true<|Q3
  exact U' 14 O<|V' 1 O<|H5 false<|Q3
 rintro d ⟨r,z⟩
 refine L1 rfl (fun a7=>?_) (fun a7=>?_)
 ·refine q' 3 O ?_
  have E:=r ‹_›
  refine q' 7 O ?_
  obtain⟨b3,S⟩:∃qq__:Nat,(↑y-1:Int)=(qq__:Int):=⟨(↑y-1:Int).toNat,(by omega)⟩
  rw[S]
  obtain rfl:b3=y-1:=(by omega)
  exact I6 (y-1)<|⟨B4m Y (by omega) (fun n=>E.2 ((hC.cl hBR).2 n)),by omega⟩
 refine q' 10 O<|c' (X.gtr O O) (fun a8=>?_) fun a8=>?_
 ·exact U 10 O<|B9 16 [13,15] [13,15]<|U' 6 O<|Z O O (A9 0 a)<|Z O O (A.fs 0 (a) 0 [J (((gt R a)).Lo),J (((gt R a)).Hi)] O O O O)<|U' 2 O<|Z O O (A9 0 y)<|Z O O (A.fs 0 (y) 0 [J (((gt R y)).Lo),J (((gt R y)).Hi)] O O O O)<|Z O O (A9 0 y)<|B4 O O O O (D3 (k:=0) (i:=y) (off:=0) (us:=[J (((gt R a)).Lo),J (((gt R a)).Hi)]) (gt R a) sizeOf23 rfl rfl rfl rfl (O' _) rfl (by first|omega|(simp;omega)|simp) rfl rfl (A4 rfl (A4 rfl C6)))<|Z O O (A9 0 a)<|B4 O O O O (D3 (k:=0) (i:=a) (off:=0) (us:=[J (((gt R y)).Lo),J (((gt R y)).Hi)]) (gt R y) sizeOf23 rfl rfl rfl rfl (O' _) rfl (by first|omega|(simp;omega)|simp) rfl rfl (A4 rfl (A4 rfl C6)))<|V' 9 O<|B7 O O O<|I2<|⟨_,_,rfl,_,rfl,A6N Y hbl (by omega)⟩
 refine U 6 O<|B9 16 [13,15] [13,15]<|U' 6 O<|Z O O (A9 0 y)<|Z O O (A.fs 0 (y) 0 [J (((gt R y)).Lo),J (((gt R y)).Hi)] O O O O)<|U' 2 O<|Z O O (A9 0 x)<|Z O O (A.fs 0 (x) 0 [J (((gt R x)).Lo),J (((gt R x)).Hi)] O O O O)<|Z O O (A9 0 x)<|B4 O O O O (D3 (k:=0) (i:=x) (off:=0) (us:=[J (((gt R y)).Lo),J (((gt R y)).Hi)]) (gt R y) sizeOf23 rfl rfl rfl rfl (O' _) rfl (by first|omega|(simp;omega)|simp) rfl rfl (A4 rfl (A4 rfl C6)))<|Z O O (A9 0 y)<|B4 O O O O (D3 (k:=0) (i:=y) (off:=0) (us:=[J (((gt R x)).Lo),J (((gt R x)).Hi)]) (gt R x) sizeOf23 rfl rfl rfl rfl (O' _) rfl (by first|omega|(simp;omega)|simp) rfl rfl (A4 rfl (A4 rfl C6)))<|V' 15 O ?_
 obtain⟨b4,T⟩:∃qq__:Nat,(↑y-1:Int)=(qq__:Int):=⟨(↑y-1:Int).toNat,(by omega)⟩
 rw[T]
 obtain rfl:b4=y-1:=(by omega)
 exact O7 (x+1) (y-1) ((R.set x (gt R y)).set y (gt R x))<|B0d Y hbl (by omega) (fun n=>w ‹_› ⟨by omega,(hC.cl hBR (i:=x) (j:=a)).2 n⟩) (Sj fun n=>z ‹_› ⟨by omega,fun h1_=>n ((hC.cl hBR (i:=y) (j:=a)).1 h1_)⟩)
theorem AT{G:Prop}(h:G:=by exact⟨fun h_=>by first|(cases h_;done)|exact⟨by omega,Sv h_⟩|exact⟨by omega,by assumption⟩,fun h_ hn_=>by first|(cases h_;done)|exact absurd hn_.2 (Th h_)|omega|exact absurd hn_.2 ‹_›⟩):G:=h
theorem A5o(m:Mem){v:Value}{L:List Span}(hL:L.length≤4000000000)(hB:Cz L){fc:Nat}{cf:Span→Span→Int}(hC:CmpOk fc cf){a b pv:Nat}{za zb zpv:Int}(hza:za=a)(hzb:zb=b)(hzpv:zpv=pv)(hap:a≤pv)(hpb:pv<b)(hbl:b≤L.length):Mut prog 270 #[v,J za,J zb,J zpv,Fc fc] m [A5 v 23 L] (fun _ Es u=>∃p:Nat,u=J p∧∃R,Es=[A5 v 23 R]∧PqE Span.Lo L R a b p pv):=by
 subst hza
 subst hzb
 subst hzpv
 refine G3 func270 O ntmps270 fun T=>q' 6 O<|B9 16 [13,15] [13,15]<|U' 6 O<|Z O O (A9 0 pv)<|Z O O (A.fs 0 (pv) 0 [J (((gt L pv)).Lo),J (((gt L pv)).Hi)] O O O O)<|U' 2 O<|Z O O (A9 0 a)<|Z O O (A.fs 0 (a) 0 [J (((gt L a)).Lo),J (((gt L a)).Hi)] O O O O)<|Z O O (A9 0 a)<|B4 O O O O (D3 (k:=0) (i:=a) (off:=0) (us:=[J (((gt L pv)).Lo),J (((gt L pv)).Hi)]) (gt L pv) sizeOf23 rfl rfl rfl rfl (O' _) rfl (by first|omega|(simp;omega)|simp) rfl rfl (A4 rfl (A4 rfl C6)))<|Z O O (A9 0 pv)<|B4 O O O O (D3 (k:=0) (i:=pv) (off:=0) (us:=[J (((gt L a)).Lo),J (((gt L a)).Hi)]) (gt L a) sizeOf23 rfl rfl rfl rfl (O' _) rfl (by first|omega|(simp;omega)|simp) rfl rfl (A4 rfl (A4 rfl C6)))<|V' 2 O ?_
 obtain⟨R1,l⟩:∃qq__:List Span,qq__=(L.set a (gt L pv)).set pv (gt L a):=⟨_,rfl⟩
 have s:Seg L R1 a b:=(by rw[l];exact .sw (by omega) (by omega) (by omega))
 have I:gt R1 a=gt L pv:=(by rw[l];exact A7h (by omega))
 have K:((L.set a (gt L pv)).set pv (gt L a))=R1:=l.symm
 rw[K]
 refine have Q:=s.len;q' 11 O ?_
 obtain⟨M,z⟩:∃qq__:Nat,(↑b-1:Int)=(qq__:Int):=⟨(↑b-1:Int).toNat,(by omega)⟩
 rw[z]
 obtain rfl:M=b-1:=(by omega)
 refine Di (fun(p:Nat) (q:Nat) (R:List Span)=>q+1-p) (fun p q R=>[A5 (v) 23 (R)]) (fun p q R=>[(0,v),(1,J a),(4,Fc fc),(11,J p),(12,J q)]) (fun p q R=>PqI Span.Lo L R a b p q∧(gt R a).Lo=(gt L pv).Lo) (a+1) (b-1) R1 ?_ ?_
 ·exact⟨⟨s,by omega,fun q h1_ h2_=>by omega,fun q h1_ h2_=>by omega⟩,by rw[I]⟩
 rintro p q R ⟨E,S⟩
 refine have a0:=E.seg.len;have a1:=E.bd;have hBR:=K8 hB E.seg.perm;q' 3 O ?_
 refine J4 (fun(x:Nat)=>q+1-x) (fun x=>[A5 (v) 23 (R)]) (fun x=>[(0,v),(1,J a),(4,Fc fc),(11,J x),(12,J q)]) (fun x=>PqI Span.Lo L R a b x q∧p≤x) p ?_ ?_
 ·exact⟨E,E' _⟩
 rintro x ⟨hX,a4⟩
 refine have a2:=hX.bd;q' 1 O ?_
 refine Bm (fun(c:Bool)=>m) (fun c=>[A5 (v) 23 (R)]) (fun c=>[(0,v),(1,J a),(4,Fc fc),(11,J x),(12,J q),(47,.bool (c))]) (fun c=>(c=true→x≤q∧¬cf (gt R a) (gt R x)<0)∧(c=false→¬(x≤q∧¬cf (gt R a) (gt R x)<0))) ?_ ?_
 ·refine B9 17 [] []<|U' 2 O<|C' O O (X.leq O O) (fun V=>?_) fun V=>?_
  ·refine U' 4 O<|Z O O (A9 0 a)<|Z O O (A.fs 0 (a) 0 [J (((gt R a)).Lo),J (((gt R a)).Hi)] O O O O)<|U' 2 O<|Z O O (A9 0 x)<|Z O O (A.fs 0 (x) 0 [J (((gt R x)).Lo),J (((gt R x)).Hi)] O O O O)<|Z O O (E1 hC.1 rfl rfl (hC.2.1 _ (gt R a) (gt R x)))<|C' O O (X.lss O O) (fun W=>?_) fun W=>?_
   ·exact U' 2 O<|V' 1 O<|H5 false<|AT
   exact U' 2 O<|V' 1 O<|H5 true<|AT
  exact U' 14 O<|V' 1 O<|H5 false<|AT
 rintro c ⟨f,n⟩
 refine L1 rfl (fun Y=>?_) (fun Y=>?_)
 ·refine q' 3 O ?_
  have t:=f ‹_›
  exact q' 7 O<|I6 (x+1)<|⟨B7e hX (by omega) (fun r=>t.2 ((hC.cl hBR).2 r)),by omega⟩
 refine q' 7 O ?_
 refine J4 (fun(y:Nat)=>y) (fun y=>[A5 (v) 23 (R)]) (fun y=>[(0,v),(1,J a),(4,Fc fc),(11,J x),(12,J y)]) (fun y=>PqI Span.Lo L R a b x y∧y≤q) q ?_ ?_
 ·exact⟨hX,E' _⟩
 rintro y ⟨B,a5⟩
 refine have a3:=B.bd;q' 1 O ?_
 refine Bm (fun(d:Bool)=>m) (fun d=>[A5 (v) 23 (R)]) (fun d=>[(0,v),(1,J a),(4,Fc fc),(11,J x),(12,J y),(65,.bool (d))]) (fun d=>(d=true→x≤y∧cf (gt R a) (gt R y)<0)∧(d=false→¬(x≤y∧cf (gt R a) (gt R y)<0))) ?_ ?_
 ·refine B9 16 [] []<|U' 2 O<|C' O O (X.leq O O) (fun h9=>?_) fun h9=>?_
  ·refine U' 4 O<|Z O O (A9 0 a)<|Z O O (A.fs 0 (a) 0 [J (((gt R a)).Lo),J (((gt R a)).Hi)] O O O O)<|U' 2 O<|Z O O (A9 0 y)<|Z O O (A.fs 0 (y) 0 [J (((gt R y)).Lo),J (((gt R y)).Hi)] O O O O)<|Z O O (E1 hC.1 rfl rfl (hC.2.1 _ (gt R a) (gt R y)))<|C' O O (X.lss O O) (fun F=>?_) fun F=>?_
   ·exact U' 1 O<|V' 1 O<|H5 true<|AT
   exact U' 1 O<|V' 1 O<|H5 false<|AT
  exact U' 13 O<|V' 1 O<|H5 false<|AT
 rintro d ⟨g,o⟩
 refine L1 rfl (fun G=>?_) (fun G=>?_)
 ·refine q' 3 O ?_
  have w:=g ‹_›
  refine q' 7 O ?_
  obtain⟨N,C⟩:∃qq__:Nat,(↑y-1:Int)=(qq__:Int):=⟨(↑y-1:Int).toNat,(by omega)⟩
  rw[C]
  obtain rfl:N=y-1:=(by omega)
  exact I6 (y-1)<|⟨B6Q B (by omega) ((hC.cl hBR).1 w.2),by omega⟩
 refine q' 10 O<|c' (X.gtr O O) (fun H=>?_) fun H=>?_
 ·exact U 16 O<|A0 O O<|I2<|⟨_,rfl,_,rfl,B4B B S (by omega)⟩
 refine U 6 O<|B9 16 [13,15] [13,15]<|U' 6 O<|Z O O (A9 0 y)<|Z O O (A.fs 0 (y) 0 [J (((gt R y)).Lo),J (((gt R y)).Hi)] O O O O)<|U' 2 O<|Z O O (A9 0 x)<|Z O O (A.fs 0 (x) 0 [J (((gt R x)).Lo),J (((gt R x)).Hi)] O O O O)<|Z O O (A9 0 x)<|B4 O O O O (D3 (k:=0) (i:=x) (off:=0) (us:=[J (((gt R y)).Lo),J (((gt R y)).Hi)]) (gt R y) sizeOf23 rfl rfl rfl rfl (O' _) rfl (by first|omega|(simp;omega)|simp) rfl rfl (A4 rfl (A4 rfl C6)))<|Z O O (A9 0 y)<|B4 O O O O (D3 (k:=0) (i:=y) (off:=0) (us:=[J (((gt R x)).Lo),J (((gt R x)).Hi)]) (gt R x) sizeOf23 rfl rfl rfl rfl (O' _) rfl (by first|omega|(simp;omega)|simp) rfl rfl (A4 rfl (A4 rfl C6)))<|V' 15 O ?_
 obtain⟨P,D⟩:∃qq__:Nat,(↑y-1:Int)=(qq__:Int):=⟨(↑y-1:Int).toNat,(by omega)⟩
 rw[D]
 obtain rfl:P=y-1:=(by omega)
 exact O7 (x+1) (y-1) ((R.set x (gt R y)).set y (gt R x))<|⟨B6d B hbl (by omega) (Sj fun r=>n ‹_› ⟨by omega,fun h1_=>r ((hC.cl hBR (i:=a) (j:=x)).1 h1_)⟩) (fun r=>o ‹_› ⟨by omega,(hC.cl hBR (i:=a) (j:=y)).2 r⟩),(B1T B hbl (by omega) (by omega)).trans S⟩
theorem LN(m:Mem){v:Value}{L:List Span}{b0:Nat}{sw:Int}(hL:L.length≤4000000000)(hsw:0≤sw∧sw≤1000){fc:Nat}{cf:Span→Span→Int}(hC:CmpOk fc cf){a b:Nat}{za zb:Int}(hza:za=a)(hzb:zb=b)(ha:a<L.length)(hb:b<L.length):Mut prog 326 #[v,J za,J zb,Pt b0 0,Fc fc] m [A5 v 23 L,blk b0 3 [J sw]] (fun _ Es u=>∃(x y:Nat) (s':Int),u= .tuple #[J (x:Nat),J (y:Nat)]∧Es=[A5 v 23 L,blk b0 3 [J s']]∧((x=a∧y=b)∨(x=b∧y=a))∧sw≤s'∧s'≤sw+1):=by
 subst hza
 subst hzb
 refine G3 func326 O ntmps326 fun c=>q' 8 O<|B9 11 [] []<|U' 3 O<|Z O O (A9 0 b)<|Z O O (A.fs 0 (b) 0 [J (((gt L b)).Lo),J (((gt L b)).Hi)] O O O O)<|U' 2 O<|Z O O (A9 0 a)<|Z O O (A.fs 0 (a) 0 [J (((gt L a)).Lo),J (((gt L a)).Hi)] O O O O)<|Z O O (E1 hC.1 rfl rfl (hC.2.1 _ (gt L b) (gt L a)))<|C' O O (X.lss O O) (fun d=>?_) fun d=>?_
 ·exact V' 6 O<|b' 1 O O O<|U 2 O<|G7 (C1 (k:=1) sizeOf3 rfl rfl rfl rfl (J' rfl))<|U 12 O<|B7 O O O<|I2<|⟨b,a,_,rfl,rfl,by omega,by omega,by omega⟩
 exact V' 13 O<|B7 O O O<|I2<|⟨a,b,_,rfl,rfl,by omega,by omega,by omega⟩
theorem Js(m:Mem){v:Value}{L:List Span}{b0:Nat}{sw:Int}(hL:L.length≤4000000000)(hsw:0≤sw∧sw≤990){fc:Nat}{cf:Span→Span→Int}(hC:CmpOk fc cf){a b c:Nat}{za zb zc:Int}(hza:za=a)(hzb:zb=b)(hzc:zc=c)(ha:a<L.length)(hb:b<L.length)(hc:c<L.length):Mut prog 309 #[v,J za,J zb,J zc,Pt b0 0,Fc fc] m [A5 v 23 L,blk b0 3 [J sw]] (fun _ Es u=>∃(x:Nat) (s':Int),u=J (x:Nat)∧Es=[A5 v 23 L,blk b0 3 [J s']]∧(x=a∨x=b∨x=c)∧sw≤s'∧s'≤sw+3):=by
 subst hza
 subst hzb
 subst hzc
 refine G3 func309 O ntmps309 fun y=>q' 12 O ?_
 refine C5 (C8 (A:=[]) call326 rfl (.refl _) (LN _ (L:=L) (sw:=sw) (by omega) (by omega) hC (a:=a) (b:=b) (by omega) (by omega) (by omega) (by omega))) (by decide) (fun K f o p d=>?_)
 obtain⟨B,C,D,rfl,rfl,E,F⟩:=d
 refine U 14 O ?_
 refine C5 (C8 (A:=[]) call326 rfl (.refl _) (LN _ (L:=L) (sw:=D) (by omega) (by omega) hC (a:=C) (b:=c) (by omega) (by omega) (by omega) (by omega))) (by decide) (fun M f o q d=>?_)
 obtain⟨k,G,l,rfl,rfl,r,s⟩:=d
 refine U 14 O ?_
 refine C5 (C8 (A:=[]) call326 rfl (.refl _) (LN _ (L:=L) (sw:=l) (by omega) (by omega) hC (a:=B) (b:=k) (by omega) (by omega) (by omega) (by omega))) (by decide) (fun z f o g d=>?_)
 obtain⟨H,n,I,rfl,rfl,t,w⟩:=d
 exact U 14 O<|A0 O O<|I2<|⟨n,_,rfl,rfl,by omega,by omega,by omega⟩
theorem Jx(m:Mem){v:Value}{L:List Span}{b0:Nat}{sw:Int}(hL:L.length≤4000000000)(hsw:0≤sw∧sw≤980){fc:Nat}{cf:Span→Span→Int}(hC:CmpOk fc cf){a:Nat}{za:Int}(hza:za=a)(ha:1≤a)(hb:a+1<L.length):Mut prog 308 #[v,J za,Pt b0 0,Fc fc] m [A5 v 23 L,blk b0 3 [J sw]] (fun _ Es u=>∃(x:Nat) (s':Int),u=J (x:Nat)∧Es=[A5 v 23 L,blk b0 3 [J s']]∧(x=a-1∨x=a∨x=a+1)∧sw≤s'∧s'≤sw+3):=by
 subst hza
 refine G3 func308 O ntmps308 fun g=>q' 15 O ?_
 refine C5 (C8 (A:=[]) call309 rfl (.refl _) (Js _ (L:=L) (sw:=sw) (by omega) (by omega) hC (a:=a-1) (b:=a) (c:=a+1) (by omega) (by omega) (by omega) (by omega) (by omega) (by omega))) (by decide) (fun p k q f d=>?_)
 obtain⟨l,r,rfl,rfl,n,o⟩:=d
 exact U 4 O<|A0 O O<|I2<|⟨l,_,rfl,rfl,by omega,by omega,by omega⟩
theorem A5s(m:Mem){v:Value}{L:List Span}(hL:L.length≤4000000000)(hB:Cz L){fc:Nat}{cf:Span→Span→Int}(hC:CmpOk fc cf){a b:Nat}{za zb:Int}(hza:za=a)(hzb:zb=b)(hab:a+12<b)(hbl:b≤L.length):Mut prog 267 #[v,J za,J zb,Fc fc] m [A5 v 23 L] (fun _ Es u=>∃p:Nat,∃h:Int,u= .tuple #[J p,J h]∧∃R,Es=[A5 v 23 R]∧R=L∧a≤p∧p<b):=by
 subst hza
 subst hzb
 refine G3 func267 O ntmps267 fun P=>q' 16 O<|n' zeroValue3 O fun b1=>U 6 O<|y' (X.quo rfl rfl (by omega) (by omega) (by omega))<|y' (X.mul rfl rfl (by omega) (by omega))<|U 8 O<|y' (X.quo rfl rfl (by omega) (by omega) (by omega))<|y' (X.mul rfl rfl (by omega) (by omega))<|U 8 O<|y' (X.quo rfl rfl (by omega) (by omega) (by omega))<|y' (X.mul rfl rfl (by omega) (by omega))<|U 8 O<|y' (OpX.t (X.geq rfl rfl) (by omega))<|U 7 O<|c' (X.geq O O) (fun Q=>?_) fun Q=>?_
 ·refine U 8 O ?_
  refine C5 (K5 [1,0] call308 O (Jx _ (L:=L) (sw:=0) (by omega) (by omega) hC (a:=(↑a+(((↑b-↑a)/4)*1):Int).toNat) (by omega) (by omega) (by omega))) (by decide) (fun m3 g k D f=>?_)
  obtain⟨W,Y,rfl,rfl,a0,a1⟩:=f
  refine U 8 O ?_
  refine C5 (C8 (A:=[]) call308 rfl (.refl _) (Jx _ (L:=L) (sw:=Y) (by omega) (by omega) hC (a:=(↑a+(((↑b-↑a)/4)*2):Int).toNat) (by omega) (by omega) (by omega))) (by decide) (fun m9 g k l f=>?_)
  obtain⟨y,z,rfl,rfl,E,F⟩:=f
  refine U 7 O ?_
  refine C5 (C8 (A:=[]) call308 rfl (.refl _) (Jx _ (L:=L) (sw:=z) (by omega) (by omega) hC (a:=(↑a+(((↑b-↑a)/4)*3):Int).toNat) (by omega) (by omega) (by omega))) (by decide) (fun S g k n f=>?_)
  obtain⟨B,C,rfl,rfl,G,H⟩:=f
  refine U 9 O ?_
  refine C5 (C8 (A:=[]) call309 rfl (.refl _) (Js _ (L:=L) (sw:=C) (by omega) (by omega) hC (a:=W) (b:=y) (c:=B) (by omega) (by omega) (by omega) (by omega) (by omega) (by omega))) (by decide) (fun T g k o f=>?_)
  obtain⟨a2,a3,rfl,rfl,I,K⟩:=f
  refine U 5 O<|b' 1 O O O<|U 5 O<|c' (X.eql O O) (fun q=>?_) fun q=>?_
  ·refine U 13 O ?_
   refine B7 rfl rfl rfl (fun w' d=>B3 (d.weaken (.cons_cons _ (.cons _ .slnil))) ?_)
   exact⟨_,_,rfl,_,rfl,rfl,by omega,by omega⟩
  refine U 6 O<|c' (X.eql O O) (fun r=>?_) fun r=>?_
  ·refine U 13 O ?_
   refine B7 rfl rfl rfl (fun w' d=>B3 (d.weaken (.cons_cons _ (.cons _ .slnil))) ?_)
   exact⟨_,_,rfl,_,rfl,rfl,by omega,by omega⟩
  refine U 13 O ?_
  refine B7 rfl rfl rfl (fun w' d=>B3 (d.weaken (.cons_cons _ (.cons _ .slnil))) ?_)
  exact⟨_,_,rfl,_,rfl,rfl,by omega,by omega⟩
 refine U 11 O ?_
 refine C5 (K5 [1,0] call309 O (Js _ (L:=L) (sw:=0) (by omega) (by omega) hC (a:=(↑a+(((↑b-↑a)/4)*1):Int).toNat) (b:=(↑a+(((↑b-↑a)/4)*2):Int).toNat) (c:=(↑a+(((↑b-↑a)/4)*3):Int).toNat) (by omega) (by omega) (by omega) (by omega) (by omega) (by omega))) (by decide) (fun V g k s f=>?_)
 obtain⟨a4,a5,rfl,rfl,M,N⟩:=f
 refine U 5 O<|b' 1 O O O<|U 5 O<|c' (X.eql O O) (fun w=>?_) fun w=>?_
 ·refine U 13 O ?_
  refine B7 rfl rfl rfl (fun w' d=>B3 (d.weaken (.cons_cons _ (.cons _ .slnil))) ?_)
  exact⟨_,_,rfl,_,rfl,rfl,by omega,by omega⟩
 refine U 6 O<|c' (X.eql O O) (fun x=>?_) fun x=>?_
 ·refine U 13 O ?_
  refine B7 rfl rfl rfl (fun w' d=>B3 (d.weaken (.cons_cons _ (.cons _ .slnil))) ?_)
  exact⟨_,_,rfl,_,rfl,rfl,by omega,by omega⟩
 refine U 13 O ?_
 refine B7 rfl rfl rfl (fun w' d=>B3 (d.weaken (.cons_cons _ (.cons _ .slnil))) ?_)
 exact⟨_,_,rfl,_,rfl,rfl,by omega,by omega⟩
theorem EL{G:Prop}(h:G:=by exact⟨fun h_=>by first|(cases h_;done)|exact⟨by omega,Sv h_⟩|exact⟨by omega,by assumption⟩,fun h_ hn_=>by first|(cases h_;done)|exact absurd hn_.2 (Th h_)|omega|exact absurd hn_.2 ‹_›⟩):G:=h
theorem ER{G:Prop}(h:G:=by exact⟨_,rfl,_,rfl,hS,fun h_=>by first|(cases h_;done)|(obtain rfl:x=b:=(by omega);exact hX)|contradiction⟩):G:=h
theorem A3F(m:Mem){v:Value}{L:List Span}(hL:L.length≤4000000000)(hB:Cz L){fc:Nat}{cf:Span→Span→Int}(hC:CmpOk fc cf){a b:Nat}{za zb:Int}(hza:za=a)(hzb:zb=b)(hab:a+12<b)(hbl:b≤L.length)(hLb:Lb Span.Lo L a b):Mut prog 269 #[v,J za,J zb,Fc fc] m [A5 v 23 L] (fun _ Es u=>∃q:Bool,u= .bool q∧∃R,Es=[A5 v 23 R]∧Seg L R a b∧(q=true→Srt Span.Lo R a b)):=by
 subst hza
 subst hzb
 refine G3 func269 O ntmps269 fun a3=>q' 19 O ?_
 refine Di (fun(k:Nat) (i:Nat) (R:List Span)=>5-k) (fun k i R=>[A5 (v) 23 (R)]) (fun k i R=>[(0,v),(1,J a),(2,J b),(3,Fc fc),(9,J i),(10,J k)]) (fun k i R=>k≤5∧a+1≤i∧i≤b∧Seg L R a b∧Srt Span.Lo R a i) 0 (a+1) L ?_ ?_
 ·exact⟨by omega,by omega,by omega,.refl _ _ _,.one _ _ _⟩
 rintro k i R ⟨hk,a7,a8,hS,hT⟩
 refine have a4:=hS.len;have hBR:=K8 hB hS.perm;q' 4 O<|c' (X.lss O O) (fun h2=>?_) fun h2=>?_
 ·refine U 9 O ?_
  refine J4 (fun(x:Nat)=>b-x) (fun x=>[A5 (v) 23 (R)]) (fun x=>[(0,v),(1,J a),(2,J b),(3,Fc fc),(9,J x),(10,J k)]) (fun x=>i≤x∧x≤b∧Srt Span.Lo R a x) i ?_ ?_
  ·exact⟨E' _,by omega,hT⟩
  rintro x ⟨a9,b0,hX⟩
  refine q' 1 O ?_
  refine Bm (fun(d:Bool)=>m) (fun d=>[A5 (v) 23 (R)]) (fun d=>[(0,v),(1,J a),(2,J b),(3,Fc fc),(9,J x),(10,J k),(36,.bool (d))]) (fun d=>(d=true→x<b∧¬cf (gt R x) (gt R (x-1))<0)∧(d=false→¬(x<b∧¬cf (gt R x) (gt R (x-1))<0))) ?_ ?_
  ·refine B9 18 [] []<|U' 2 O<|C' O O (X.lss O O) (fun h4=>?_) fun h4=>?_
   ·refine U' 4 O<|Z O O (A9 0 x)<|Z O O (A.fs 0 (x) 0 [J (((gt R x)).Lo),J (((gt R x)).Hi)] O O O O)<|U' 3 O<|Z O O (A9 0 (x-1))<|Z O O (A.fs 0 (x-1) 0 [J (((gt R (x-1))).Lo),J (((gt R (x-1))).Hi)] O O O O)<|Z O O (E1 hC.1 rfl rfl (hC.2.1 _ (gt R x) (gt R (x-1))))<|C' O O (X.lss O O) (fun h5=>?_) fun h5=>?_
    ·exact U' 2 O<|V' 1 O<|H5 false<|EL
    exact U' 2 O<|V' 1 O<|H5 true<|EL
   exact U' 15 O<|V' 1 O<|H5 false<|EL
  rintro d ⟨l,S⟩
  refine L1 rfl (fun h7=>?_) (fun h7=>?_)
  ·refine q' 3 O ?_
   have B:=l ‹_›
   exact q' 7 O<|I6 (x+1)<|⟨by omega,by omega,hX.more (fun G=>B.2 ((hC.cl hBR).2 G))⟩
  refine q' 10 O<|c' (X.eql O O) (fun h8=>?_) fun h8=>?_
  ·exact U 15 O<|A0 O O<|I2<|ER
  refine U 11 O<|c' (X.lss O O) (fun h9=>?_) fun h9=>?_
  ·exact U 15 O<|A0 O O<|I2<|ER
  refine U 6 O<|B9 18 [15,17] [15,17,100004]<|U' 4 O<|J2 O O O (fun _ _ o=>(X.sub rfl rfl (by omega) (by omega))) (by decide)<|U' 3 O<|Z O O (A9 0 (x-1))<|Z O O (A.fs 0 (x-1) 0 [J (((gt R (x-1))).Lo),J (((gt R (x-1))).Hi)] O O O O)<|U' 2 O<|Z O O (A9 0 x)<|Z O O (A.fs 0 (x) 0 [J (((gt R x)).Lo),J (((gt R x)).Hi)] O O O O)<|Z O O (A9 0 x)<|B4 O O O O (D3 (k:=0) (i:=x) (off:=0) (us:=[J (((gt R (x-1))).Lo),J (((gt R (x-1))).Hi)]) (gt R (x-1)) sizeOf23 rfl rfl rfl rfl (O' _) rfl (by first|omega|(simp;omega)|simp) rfl rfl (A4 rfl (A4 rfl C6)))<|Z O O (A9 0 (x-1))<|B4 O O O O (D3 (k:=0) (i:=x-1) (off:=0) (us:=[J (((gt R x)).Lo),J (((gt R x)).Hi)]) (gt R x) sizeOf23 rfl rfl rfl rfl (O' _) rfl (by first|omega|(simp;omega)|simp) rfl rfl (A4 rfl (A4 rfl C6)))<|V' 1 O ?_
  refine Bm (fun(R2:List Span)=>m) (fun R2=>[A5 (v) 23 (R2)]) (fun R2=>[(0,v),(1,J a),(2,J b),(3,Fc fc),(9,J x),(10,J k)]) (fun R2=>Seg L R2 a b∧Srt Span.Lo R2 a x) ?_ ?_
  ·refine q' 1 O ?_
   obtain⟨R1,t⟩:∃qq__:List Span,qq__=(R.set x (gt R (x-1))).set (x-1) (gt R x):=⟨_,rfl⟩
   have g:Seg L R1 a b:=(by rw[t];exact hS.tsw (by omega) (by omega) (by omega))
   have Q:Srt Span.Lo R1 a (x-1):=(by rw[t];exact hX.swp (by omega))
   have C:((R.set x (gt R (x-1))).set (x-1) (gt R x))=R1:=t.symm
   rw[C]
   refine have W:=g.len;have Y:=K8 hB g.perm;q' 4 O<|c' (X.geq O O) (fun H=>?_) fun H=>?_
   ·refine U 11 O ?_
    obtain⟨T,D⟩:∃qq__:Nat,(↑x-1:Int)=(qq__:Int):=⟨(↑x-1:Int).toNat,(by omega)⟩
    rw[D]
    obtain rfl:T=x-1:=(by omega)
    refine S5 (fun(y:Nat) (R:List Span)=>y) (fun y R=>[A5 (v) 23 (R)]) (fun y R=>[(0,v),(1,J a),(2,J b),(3,Fc fc),(9,J x),(10,J k),(11,J y)]) (fun y R=>InsS Span.Lo L R a b (x-1) y) (x-1) R1 ?_ ?_
    ·exact Mf g Q (by omega)
    rintro y R p
    try dsimp only at p
    refine have s:=p;have a5:=s.seg.len;have a6:=s.bd;have hBR:=K8 hB s.seg.perm;q' 4 O<|c' (X.geq O O) (fun I=>?_) fun I=>?_
    ·refine U 9 O<|B9 13 [] []<|U' 3 O<|Z O O (A9 0 y)<|Z O O (A.fs 0 (y) 0 [J (((gt R y)).Lo),J (((gt R y)).Hi)] O O O O)<|U' 3 O<|Z O O (A9 0 (y-1))<|Z O O (A.fs 0 (y-1) 0 [J (((gt R (y-1))).Lo),J (((gt R (y-1))).Hi)] O O O O)<|Z O O (E1 hC.1 rfl rfl (hC.2.1 _ (gt R y) (gt R (y-1))))<|C' O O (X.lss O O) (fun K=>?_) fun K=>?_
     ·refine U' 1 O<|V' 4 O<|B9 18 [15,17] [15,17,100004]<|U' 4 O<|J2 O O O (fun _ _ o=>(X.sub rfl rfl (by omega) (by omega))) (by decide)<|U' 3 O<|Z O O (A9 0 (y-1))<|Z O O (A.fs 0 (y-1) 0 [J (((gt R (y-1))).Lo),J (((gt R (y-1))).Hi)] O O O O)<|U' 2 O<|Z O O (A9 0 y)<|Z O O (A.fs 0 (y) 0 [J (((gt R y)).Lo),J (((gt R y)).Hi)] O O O O)<|Z O O (A9 0 y)<|B4 O O O O (D3 (k:=0) (i:=y) (off:=0) (us:=[J (((gt R (y-1))).Lo),J (((gt R (y-1))).Hi)]) (gt R (y-1)) sizeOf23 rfl rfl rfl rfl (O' _) rfl (by first|omega|(simp;omega)|simp) rfl rfl (A4 rfl (A4 rfl C6)))<|Z O O (A9 0 (y-1))<|B4 O O O O (D3 (k:=0) (i:=y-1) (off:=0) (us:=[J (((gt R y)).Lo),J (((gt R y)).Hi)]) (gt R y) sizeOf23 rfl rfl rfl rfl (O' _) rfl (by first|omega|(simp;omega)|simp) rfl rfl (A4 rfl (A4 rfl C6)))<|V' 8 O ?_
      obtain⟨V,E⟩:∃qq__:Nat,(↑y-1:Int)=(qq__:Int):=⟨(↑y-1:Int).toNat,(by omega)⟩
      rw[E]
      obtain rfl:V=y-1:=(by omega)
      exact K2 (y-1) ((R.set y (gt R (y-1))).set (y-1) (gt R y))<|OX s hbl (s.stop hLb hbl (by omega) ((hC.cl hBR).1 ‹_›)) ((hC.cl hBR).1 ‹_›)
     refine U' 1 O<|V' 9 O<|H5 R ?_
     have c:=Ia s (fun G r=>by first|omega|(have h1_:=(hC.cl hBR).2 r;contradiction))
     exact⟨c.1,by have h2_:=c.2;rwa [show x-1+1=x by omega]at h2_⟩
    refine U 8 O<|H5 R ?_
    have c:=Ia s (fun G r=>by first|omega|(have h1_:=(hC.cl hBR).2 r;contradiction))
    exact⟨c.1,by have h2_:=c.2;rwa [show x-1+1=x by omega]at h2_⟩
   exact U 5 O<|H5 R1<|⟨g,by obtain rfl:x=a+1:=(by omega);exact .one _ _ _⟩
  rintro R2 ⟨n,F⟩
  refine have a0:=n.len;have a1:=K8 hB n.perm;q' 5 O<|c' (X.geq O O) (fun M=>?_) fun M=>?_
  ·refine U 11 O ?_
   refine S5 (fun(z:Nat) (R:List Span)=>b-z) (fun z R=>[A5 (v) 23 (R)]) (fun z R=>[(0,v),(1,J a),(2,J b),(3,Fc fc),(9,J x),(10,J k),(12,J z)]) (fun z R=>x+1≤z∧Seg L R a b∧Srt Span.Lo R a x) (x+1) R2 ?_ ?_
   ·exact⟨by omega,n,F⟩
   rintro z R ⟨hz,f,w⟩
   refine have a2:=f.len;have hBR:=K8 hB f.perm;q' 5 O<|c' (X.lss O O) (fun N=>?_) fun N=>?_
   ·refine U 9 O<|B9 13 [] []<|U' 3 O<|Z O O (A9 0 z)<|Z O O (A.fs 0 (z) 0 [J (((gt R z)).Lo),J (((gt R z)).Hi)] O O O O)<|U' 3 O<|Z O O (A9 0 (z-1))<|Z O O (A.fs 0 (z-1) 0 [J (((gt R (z-1))).Lo),J (((gt R (z-1))).Hi)] O O O O)<|Z O O (E1 hC.1 rfl rfl (hC.2.1 _ (gt R z) (gt R (z-1))))<|C' O O (X.lss O O) (fun P=>?_) fun P=>?_
    ·exact U' 1 O<|V' 4 O<|B9 18 [15,17] [15,17,100004]<|U' 4 O<|J2 O O O (fun _ _ o=>(X.sub rfl rfl (by omega) (by omega))) (by decide)<|U' 3 O<|Z O O (A9 0 (z-1))<|Z O O (A.fs 0 (z-1) 0 [J (((gt R (z-1))).Lo),J (((gt R (z-1))).Hi)] O O O O)<|U' 2 O<|Z O O (A9 0 z)<|Z O O (A.fs 0 (z) 0 [J (((gt R z)).Lo),J (((gt R z)).Hi)] O O O O)<|Z O O (A9 0 z)<|B4 O O O O (D3 (k:=0) (i:=z) (off:=0) (us:=[J (((gt R (z-1))).Lo),J (((gt R (z-1))).Hi)]) (gt R (z-1)) sizeOf23 rfl rfl rfl rfl (O' _) rfl (by first|omega|(simp;omega)|simp) rfl rfl (A4 rfl (A4 rfl C6)))<|Z O O (A9 0 (z-1))<|B4 O O O O (D3 (k:=0) (i:=z-1) (off:=0) (us:=[J (((gt R z)).Lo),J (((gt R z)).Hi)]) (gt R z) sizeOf23 rfl rfl rfl rfl (O' _) rfl (by first|omega|(simp;omega)|simp) rfl rfl (A4 rfl (A4 rfl C6)))<|V' 8 O<|K2 (z+1) ((R.set z (gt R (z-1))).set (z-1) (gt R z))<|⟨by omega,f.tsw (by omega) (by omega) hbl,w.out (b:=b) (by omega) (by omega) (by omega)⟩
    exact U' 1 O<|V' 16 O<|O7 (k+1) x R<|⟨by omega,by omega,by omega,f,w⟩
   exact U 15 O<|O7 (k+1) x R<|⟨by omega,by omega,by omega,f,w⟩
  exact U 12 O<|O7 (k+1) x R2<|⟨by omega,by omega,by omega,n,F⟩
 exact U 14 O<|A0 O O<|I2<|ER
end Go.Proofs.T10
