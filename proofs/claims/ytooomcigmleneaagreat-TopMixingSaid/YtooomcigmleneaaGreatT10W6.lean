import Derived.Test.YtooomcigmleneaaGreatKxW
import Derived.Test.YtooomcigmleneaaGreatKyP
import Derived.Test.YtooomcigmleneaaGreatT10Ty
import Derived.Test.YtooomcigmleneaaGreatKxU
import Derived.Test.YtooomcigmleneaaGreatT10W
import Derived.Test.YtooomcigmleneaaGreatT10Set
set_option linter.all false
set_option maxHeartbeats 2000000
namespace Go.Proofs.T10
open Tryz
set_option maxRecDepth 20000
open Go Go.Kx
variable{L:List Span}{a b:Nat}{cf:Span→Span→Int}{fc:Nat}{v:Value}{za zb:Int}
def CmpOk(fc:Nat)(cf:Span→Span→Int):Prop:=Enters prog fc∧(∀(m:Mem) (a b:Span),Exact prog fc #[.agg [J a.Lo,J a.Hi].toArray,.agg [J b.Lo,J b.Hi].toArray] m (J (cf a b)))∧(∀a b:Span,(-1000000000≤a.Lo∧a.Lo≤1000000000)→(-1000000000≤b.Lo∧b.Lo≤1000000000)→(cf a b<0↔a.Lo<b.Lo))
theorem CmpOk.cl(h:CmpOk fc cf){R:List Span}(hB:bdS R){i j:Nat}:cf (gt R i) (gt R j)<0↔(gt R i).Lo<(gt R j).Lo:=h.2.2 _ _ (hB i) (hB j)
theorem C6t(m:Mem)(ca:List Value)(a:Span)(ha:Enc.rd m ca a)(cb:List Value)(b:Span)(hb:Enc.rd m cb b):Exact prog 149 #[.agg ca.toArray,.agg cb.toArray] m (J (B3h a b)):=by
 obtain rfl:=ha
 obtain rfl:=hb
 exact C7 func149 r' ntmps149 fun wld=>q' 2 r'<|o' r' r' fun b1=>o' r' r' fun b2=>v' 5 r'<|f' r' t'<|b' 1 r' r' r'<|f' r' t'<|b' 0 r' r' r'<|y' (A9O rfl rfl)<|v' 4 r'<|A0 r' r'<|A7<|A8 rfl
theorem C6o(m:Mem)(hL:L.length≤1000000)(hB:bdS L)(hC:CmpOk fc cf)(hza:za=a)(hzb:zb=b)(hab:a≤b)(hbl:b≤L.length):Mut prog 264 #[v,J za,J zb,Fc fc] m [A5 v 23 L] (fun _ Es u=>u= .tuple #[]∧∃R,Es=[A5 v 23 R]∧Seg L R a b∧Srt Span.Lo R a b):=by
 subst hza
 subst hzb
 refine G3 func264 r' ntmps264 fun wld=>q' 8 r' ?_
 refine O6 (fun(i:Nat) (R:List Span)=>b-i) (fun i R=>[A5 (v) 23 (R)]) (fun i R=>[(0,v),(1,J a),(2,J b),(3,Fc fc),(8,J i)]) (fun i R=>a+1≤i∧Seg L R a b∧Srt Span.Lo R a i) (a+1) L ?_ ?_
 ·exact⟨Nat.le_refl _,.refl _ _ _,.one _ _ _⟩
 rintro i R ⟨hi,hS,hT⟩
 refine have hSl:=hS.len;have hBR:=J0 hB hS.perm;q' 5 r'<|c' (X.lss r' r') (fun h2=>?_) fun h2=>?_
 ·refine v' 14 r' ?_
  refine O6 (fun(j:Nat) (R:List Span)=>j) (fun j R=>[A5 (v) 23 (R)]) (fun j R=>[(0,v),(1,J a),(2,J b),(3,Fc fc),(8,J i),(9,J j)]) (fun j R=>InsS Span.Lo L R a b i j) i R ?_ ?_
  ·exact B0s hS hT (by omega)
  rintro j R hF3
  try dsimp only at hF3
  refine have hI:=hF3;have hIl:=hI.seg.len;have hIb:=hI.bd;have hBR:=J0 hB hI.seg.perm;q' 2 r'<|B4 17 [] []<|U' 2 r'<|C' r' r' (X.gtr r' r') (fun h4=>?_) fun h4=>?_
  ·refine U' 4 r'<|Y' r' r' (B0 0 j)<|Y' r' r' (A.fs 0 (j) 0 [J (((gt R j)).Lo),J (((gt R j)).Hi)] r' r' r' r')<|U' 3 r'<|Y' r' r' (B0 0 (j-1))<|Y' r' r' (A.fs 0 (j-1) 0 [J (((gt R (j-1))).Lo),J (((gt R (j-1))).Hi)] r' r' r' r')<|Y' r' r' (D6 hC.1 rfl rfl (hC.2.1 _ (gt R j) (gt R (j-1))))<|C' r' r' (X.lss r' r') (fun h5=>?_) fun h5=>?_
   ·refine U' 1 r'<|V' 6 r'<|B4 18 [15,17] [15,17,100004]<|U' 4 r'<|H6 r' r' r' (fun _ _ hle_=>(X.sub rfl rfl (by omega) (by omega))) (by decide)<|U' 3 r'<|Y' r' r' (B0 0 (j-1))<|Y' r' r' (A.fs 0 (j-1) 0 [J (((gt R (j-1))).Lo),J (((gt R (j-1))).Hi)] r' r' r' r')<|U' 2 r'<|Y' r' r' (B0 0 j)<|Y' r' r' (A.fs 0 (j) 0 [J (((gt R j)).Lo),J (((gt R j)).Hi)] r' r' r' r')<|Y' r' r' (B0 0 j)<|B3 r' r' r' r' (C6 (k:=0) (i:=j) (off:=0) (us:=[J (((gt R (j-1))).Lo),J (((gt R (j-1))).Hi)]) (gt R (j-1)) sizeOf23 rfl rfl rfl rfl (Nat.zero_lt_succ _) rfl (by first|omega|(simp;omega)|simp) rfl rfl (A4 rfl (A4 rfl C0)))<|Y' r' r' (B0 0 (j-1))<|B3 r' r' r' r' (C6 (k:=0) (i:=j-1) (off:=0) (us:=[J (((gt R j)).Lo),J (((gt R j)).Hi)]) (gt R j) sizeOf23 rfl rfl rfl rfl (Nat.zero_lt_succ _) rfl (by first|omega|(simp;omega)|simp) rfl rfl (A4 rfl (A4 rfl C0)))<|V' 8 r' ?_
    obtain⟨j1_,hj1_⟩:∃qq__:Nat,(↑j-1:Int)=(qq__:Int):=⟨(↑j-1:Int).toNat,(by omega)⟩
    rw[hj1_]
    obtain rfl:j1_=j-1:=(by omega)
    exact J7 (j-1) ((R.set j (gt R (j-1))).set (j-1) (gt R j))<|B1Y hI hbl (by omega) ((hC.cl hBR).1 (by assumption))
   refine U' 1 r'<|V' 8 r' ?_
   have hfin:=A6w hI (fun h_ hc_=>by first|omega|(have h1_:=(hC.cl hBR).2 hc_;contradiction))
   exact q' 6 r'<|J7 (i+1) R<|⟨by omega,hfin.1,hfin.2⟩
  refine U' 14 r'<|V' 8 r' ?_
  have hfin:=A6w hI (fun h_ hc_=>by first|omega|(have h1_:=(hC.cl hBR).2 hc_;contradiction))
  exact q' 6 r'<|J7 (i+1) R<|⟨by omega,hfin.1,hfin.2⟩
 exact v' 7 r'<|D9 r'<|G0<|⟨rfl,_,rfl,hS,fun p q h1_ h2_ h3_=>hT p q h1_ h2_ (by omega)⟩
theorem B6g(m:Mem)(hL:L.length≤1000000)(hB:bdS L)(hC:CmpOk fc cf)(hza:za=a)(hzb:zb=b)(hab:a≤b)(hbl:b≤L.length):Mut prog 268 #[v,J za,J zb,Fc fc] m [A5 v 23 L] (fun _ Es u=>u= .tuple #[]∧∃R,Es=[A5 v 23 R]∧Seg L R a b):=by
 subst hza
 subst hzb
 refine G3 func268 r' ntmps268 fun wld=>q' 14 r' ?_
 refine lq3 (fun(i:Int) (j:Int) (R:List Span)=>(j-i).toNat) (fun i j R=>[A5 (v) 23 (R)]) (fun i j R=>[(0,v),(8,J i),(9,J j)]) (fun i j R=>(a:Int)≤i∧j<b∧Seg L R a b) (↑a) (↑b-1) L ?_ ?_
 ·exact⟨by omega,by omega,.refl _ _ _⟩
 rintro i j R ⟨hi,hj,hS⟩
 refine have hSl:=hS.len;q' 5 r'<|c' (X.lss r' r') (fun h2=>?_) fun h2=>?_
 ·exact v' 7 r'<|B4 16 [13,15] [13,15]<|U' 6 r'<|Y' r' r' (N7 (k:=0) runUnderlying28 sizeOf23 rfl rfl rfl (by first|omega|(simp;omega)|simp) (by first|omega|(simp;omega)|simp))<|Y' r' r' (A.fs 0 ((j:Int).toNat) 0 [J (((gt R ((j:Int).toNat))).Lo),J (((gt R ((j:Int).toNat))).Hi)] r' r' r' r')<|U' 2 r'<|Y' r' r' (N7 (k:=0) runUnderlying28 sizeOf23 rfl rfl rfl (by first|omega|(simp;omega)|simp) (by first|omega|(simp;omega)|simp))<|Y' r' r' (A.fs 0 ((i:Int).toNat) 0 [J (((gt R ((i:Int).toNat))).Lo),J (((gt R ((i:Int).toNat))).Hi)] r' r' r' r')<|Y' r' r' (N7 (k:=0) runUnderlying28 sizeOf23 rfl rfl rfl (by first|omega|(simp;omega)|simp) (by first|omega|(simp;omega)|simp))<|B3 r' r' r' r' (C6 (k:=0) (i:=(i:Int).toNat) (off:=0) (us:=[J (((gt R ((j:Int).toNat))).Lo),J (((gt R ((j:Int).toNat))).Hi)]) (gt R ((j:Int).toNat)) sizeOf23 rfl rfl rfl rfl (Nat.zero_lt_succ _) rfl (by first|omega|(simp;omega)|simp) rfl rfl (A4 rfl (A4 rfl C0)))<|Y' r' r' (N7 (k:=0) runUnderlying28 sizeOf23 rfl rfl rfl (by first|omega|(simp;omega)|simp) (by first|omega|(simp;omega)|simp))<|B3 r' r' r' r' (C6 (k:=0) (i:=(j:Int).toNat) (off:=0) (us:=[J (((gt R ((i:Int).toNat))).Lo),J (((gt R ((i:Int).toNat))).Hi)]) (gt R ((i:Int).toNat)) sizeOf23 rfl rfl rfl rfl (Nat.zero_lt_succ _) rfl (by first|omega|(simp;omega)|simp) rfl rfl (A4 rfl (A4 rfl C0)))<|V' 15 r'<|X1 (i+1) (j-1) ((R.set ((i:Int).toNat) (gt R ((j:Int).toNat))).set ((j:Int).toNat) (gt R ((i:Int).toNat)))<|⟨by omega,by omega,hS.tsw (by omega) (by omega) (by omega)⟩
 exact v' 7 r'<|D9 r'<|G0<|⟨rfl,_,rfl,hS⟩
theorem A4b{G:Prop}(h:G:=by first|omega|(have h0_:(gt R (fst+(2*r+1))).Lo≤(gt R (fst+r)).Lo:=Int.not_lt.1 (fun h_=>absurd ((hC.cl hBR (i:=fst+r) (j:=fst+(2*r+1))).2 h_) (by assumption));rcases hd1_ with rfl|rfl <;> first|exact h0_|omega|exact Int.le_trans (Int.not_lt.1 (fun h_=>absurd ((hC.cl hBR (i:=fst+(2*r+1)) (j:=fst+(2*r+1)+1)).2 h_) (by assumption))) h0_)|(have h0_:(gt R (fst+(2*r+1+1))).Lo≤(gt R (fst+r)).Lo:=Int.not_lt.1 (fun h_=>absurd ((hC.cl hBR (i:=fst+r) (j:=fst+(2*r+1+1))).2 h_) (by assumption));rcases hd1_ with rfl|rfl <;> first|exact h0_|omega|exact Int.le_trans (Int.le_of_lt ((hC.cl hBR (i:=fst+(2*r+1)) (j:=fst+(2*r+1)+1)).1 (by assumption))) h0_)):G:=h
theorem B5R(m:Mem)(hL:L.length≤1000000)(hB:bdS L)(hC:CmpOk fc cf){lo hi fst:Nat}{zlo zhi zfst:Int}(hzlo:zlo=lo)(hzhi:zhi=hi)(hzfst:zfst=fst)(hlo:lo≤1000000)(hbl:fst+hi≤L.length)(hH:Hp Span.Lo L fst (lo+1) hi):Mut prog 305 #[v,J zlo,J zhi,J zfst,Fc fc] m [A5 v 23 L] (fun _ Es u=>u= .tuple #[]∧∃R,Es=[A5 v 23 R]∧Seg L R fst (fst+hi)∧Hp Span.Lo R fst lo hi):=by
 subst hzlo
 subst hzhi
 subst hzfst
 refine G3 func305 r' ntmps305 fun wld=>q' 7 r' ?_
 refine O6 (fun(r:Nat) (R:List Span)=>hi-r) (fun r R=>[A5 (v) 23 (R)]) (fun r R=>[(0,v),(2,J hi),(3,J fst),(4,Fc fc),(10,J r)]) (fun r R=>r≤1000000∧Seg L R fst (fst+hi)∧HpX Span.Lo R fst lo hi r) lo L ?_ ?_
 ·exact⟨by omega,.refl _ _ _,B9k hH⟩
 rintro r R ⟨hr,hS,hX⟩
 refine have hSl:=hS.len;have hBR:=J0 hB hS.perm;q' 4 r'<|y' (X.mul rfl rfl (by omega) (by omega))<|v' 9 r'<|c' (X.geq r' r') (fun h2=>?_) fun h2=>?_
 ·refine v' 8 r'<|D9 r'<|G0 ?_
  refine⟨rfl,_,rfl,hS,A7N hX (fun d_ hd1_ hd2_=>?_)⟩
  exact A4b
 refine v' 7 r'<|B4 22 [] []<|U' 3 r'<|C' r' r' (X.lss r' r') (fun h3=>?_) fun h3=>?_
 ·refine U' 6 r'<|Y' r' r' (B0 0 (fst+((2*r)+1)))<|Y' r' r' (A.fs 0 (fst+((2*r)+1)) 0 [J (((gt R (fst+((2*r)+1)))).Lo),J (((gt R (fst+((2*r)+1)))).Hi)] r' r' r' r')<|U' 5 r'<|Y' r' r' (B0 0 ((fst+((2*r)+1))+1))<|Y' r' r' (A.fs 0 ((fst+((2*r)+1))+1) 0 [J (((gt R ((fst+((2*r)+1))+1))).Lo),J (((gt R ((fst+((2*r)+1))+1))).Hi)] r' r' r' r')<|Y' r' r' (D6 hC.1 rfl rfl (hC.2.1 _ (gt R (fst+((2*r)+1))) (gt R ((fst+((2*r)+1))+1))))<|C' r' r' (X.lss r' r') (fun h4=>?_) fun h4=>?_
  ·refine U' 1 r'<|V' 10 r'<|B4 16 [] []<|U' 5 r'<|Y' r' r' (B0 0 (fst+r))<|Y' r' r' (A.fs 0 (fst+r) 0 [J (((gt R (fst+r))).Lo),J (((gt R (fst+r))).Hi)] r' r' r' r')<|U' 4 r'<|Y' r' r' (B0 0 (fst+(((2*r)+1)+1)))<|Y' r' r' (A.fs 0 (fst+(((2*r)+1)+1)) 0 [J (((gt R (fst+(((2*r)+1)+1)))).Lo),J (((gt R (fst+(((2*r)+1)+1)))).Hi)] r' r' r' r')<|Y' r' r' (D6 hC.1 rfl rfl (hC.2.1 _ (gt R (fst+r)) (gt R (fst+(((2*r)+1)+1)))))<|C' r' r' (X.lss r' r') (fun h5=>?_) fun h5=>?_
   ·refine U' 1 r'<|V' 5 r'<|B4 24 [21,23] [21,23,100007]<|U' 7 r'<|H6 r' r' r' (fun _ _ hle_=>(X.add rfl rfl (by omega) (by omega))) (by decide)<|U' 4 r'<|Y' r' r' (B0 0 (fst+(((2*r)+1)+1)))<|Y' r' r' (A.fs 0 (fst+(((2*r)+1)+1)) 0 [J (((gt R (fst+(((2*r)+1)+1)))).Lo),J (((gt R (fst+(((2*r)+1)+1)))).Hi)] r' r' r' r')<|U' 4 r'<|Y' r' r' (B0 0 (fst+r))<|Y' r' r' (A.fs 0 (fst+r) 0 [J (((gt R (fst+r))).Lo),J (((gt R (fst+r))).Hi)] r' r' r' r')<|Y' r' r' (B0 0 (fst+r))<|B3 r' r' r' r' (C6 (k:=0) (i:=fst+r) (off:=0) (us:=[J (((gt R (fst+(((2*r)+1)+1)))).Lo),J (((gt R (fst+(((2*r)+1)+1)))).Hi)]) (gt R (fst+(((2*r)+1)+1))) sizeOf23 rfl rfl rfl rfl (Nat.zero_lt_succ _) rfl (by first|omega|(simp;omega)|simp) rfl rfl (A4 rfl (A4 rfl C0)))<|Y' r' r' (B0 0 (fst+(((2*r)+1)+1)))<|B3 r' r' r' r' (C6 (k:=0) (i:=fst+(((2*r)+1)+1)) (off:=0) (us:=[J (((gt R (fst+r))).Lo),J (((gt R (fst+r))).Hi)]) (gt R (fst+r)) sizeOf23 rfl rfl rfl rfl (Nat.zero_lt_succ _) rfl (by first|omega|(simp;omega)|simp) rfl rfl (A4 rfl (A4 rfl C0)))<|V' 7 r' ?_
    obtain⟨r1_,hr1_⟩:∃qq__:Nat,(((2*↑r)+1)+1:Int)=(qq__:Int):=⟨(((2*↑r)+1)+1:Int).toNat,(by omega)⟩
    rw[hr1_]
    obtain rfl:r1_=((2*r)+1)+1:=(by omega)
    refine J7 (((2*r)+1)+1) ((R.set (fst+r) (gt R (fst+(((2*r)+1)+1)))).set (fst+(((2*r)+1)+1)) (gt R (fst+r))) ?_
    refine⟨by omega,hS.tsw (by omega) (by omega) (by omega),?_⟩
    have hlt_:=(hC.cl hBR (i:=fst+r) (j:=fst+(((2*r)+1)+1))).1 (by assumption)
    refine A8S (c:=((2*r)+1)+1) hX (by omega) (by omega) (by omega) hlt_ (fun d_ hd1_ hd2_=>?_)
    rcases hd1_ with rfl|rfl <;> first|exact Int.le_refl _|omega|exact Int.le_of_lt ((hC.cl hBR (i:=fst+(2*r+1)) (j:=fst+(2*r+1)+1)).1 (by assumption))|exact Int.not_lt.1 (fun h_=>absurd ((hC.cl hBR (i:=fst+(2*r+1)) (j:=fst+(2*r+1)+1)).2 h_) (by assumption))
   refine U' 1 r'<|V' 7 r'<|F1 r'<|G0 ?_
   refine⟨rfl,_,rfl,hS,A7N hX (fun d_ hd1_ hd2_=>?_)⟩
   exact A4b
  refine U' 1 r'<|V' 6 r'<|B4 16 [] []<|U' 5 r'<|Y' r' r' (B0 0 (fst+r))<|Y' r' r' (A.fs 0 (fst+r) 0 [J (((gt R (fst+r))).Lo),J (((gt R (fst+r))).Hi)] r' r' r' r')<|U' 4 r'<|Y' r' r' (B0 0 (fst+((2*r)+1)))<|Y' r' r' (A.fs 0 (fst+((2*r)+1)) 0 [J (((gt R (fst+((2*r)+1)))).Lo),J (((gt R (fst+((2*r)+1)))).Hi)] r' r' r' r')<|Y' r' r' (D6 hC.1 rfl rfl (hC.2.1 _ (gt R (fst+r)) (gt R (fst+((2*r)+1)))))<|C' r' r' (X.lss r' r') (fun h6=>?_) fun h6=>?_
  ·refine U' 1 r'<|V' 5 r'<|B4 24 [21,23] [21,23,100007]<|U' 7 r'<|H6 r' r' r' (fun _ _ hle_=>(X.add rfl rfl (by omega) (by omega))) (by decide)<|U' 4 r'<|Y' r' r' (B0 0 (fst+((2*r)+1)))<|Y' r' r' (A.fs 0 (fst+((2*r)+1)) 0 [J (((gt R (fst+((2*r)+1)))).Lo),J (((gt R (fst+((2*r)+1)))).Hi)] r' r' r' r')<|U' 4 r'<|Y' r' r' (B0 0 (fst+r))<|Y' r' r' (A.fs 0 (fst+r) 0 [J (((gt R (fst+r))).Lo),J (((gt R (fst+r))).Hi)] r' r' r' r')<|Y' r' r' (B0 0 (fst+r))<|B3 r' r' r' r' (C6 (k:=0) (i:=fst+r) (off:=0) (us:=[J (((gt R (fst+((2*r)+1)))).Lo),J (((gt R (fst+((2*r)+1)))).Hi)]) (gt R (fst+((2*r)+1))) sizeOf23 rfl rfl rfl rfl (Nat.zero_lt_succ _) rfl (by first|omega|(simp;omega)|simp) rfl rfl (A4 rfl (A4 rfl C0)))<|Y' r' r' (B0 0 (fst+((2*r)+1)))<|B3 r' r' r' r' (C6 (k:=0) (i:=fst+((2*r)+1)) (off:=0) (us:=[J (((gt R (fst+r))).Lo),J (((gt R (fst+r))).Hi)]) (gt R (fst+r)) sizeOf23 rfl rfl rfl rfl (Nat.zero_lt_succ _) rfl (by first|omega|(simp;omega)|simp) rfl rfl (A4 rfl (A4 rfl C0)))<|V' 7 r' ?_
   obtain⟨r1_,hr1_⟩:∃qq__:Nat,((2*↑r)+1:Int)=(qq__:Int):=⟨((2*↑r)+1:Int).toNat,(by omega)⟩
   rw[hr1_]
   obtain rfl:r1_=(2*r)+1:=(by omega)
   refine J7 ((2*r)+1) ((R.set (fst+r) (gt R (fst+((2*r)+1)))).set (fst+((2*r)+1)) (gt R (fst+r))) ?_
   refine⟨by omega,hS.tsw (by omega) (by omega) (by omega),?_⟩
   have hlt_:=(hC.cl hBR (i:=fst+r) (j:=fst+((2*r)+1))).1 (by assumption)
   refine A8S (c:=(2*r)+1) hX (by omega) (by omega) (by omega) hlt_ (fun d_ hd1_ hd2_=>?_)
   rcases hd1_ with rfl|rfl <;> first|exact Int.le_refl _|omega|exact Int.le_of_lt ((hC.cl hBR (i:=fst+(2*r+1)) (j:=fst+(2*r+1)+1)).1 (by assumption))|exact Int.not_lt.1 (fun h_=>absurd ((hC.cl hBR (i:=fst+(2*r+1)) (j:=fst+(2*r+1)+1)).2 h_) (by assumption))
  refine U' 1 r'<|V' 7 r'<|F1 r'<|G0 ?_
  refine⟨rfl,_,rfl,hS,A7N hX (fun d_ hd1_ hd2_=>?_)⟩
  exact A4b
 refine U' 18 r'<|V' 6 r'<|B4 16 [] []<|U' 5 r'<|Y' r' r' (B0 0 (fst+r))<|Y' r' r' (A.fs 0 (fst+r) 0 [J (((gt R (fst+r))).Lo),J (((gt R (fst+r))).Hi)] r' r' r' r')<|U' 4 r'<|Y' r' r' (B0 0 (fst+((2*r)+1)))<|Y' r' r' (A.fs 0 (fst+((2*r)+1)) 0 [J (((gt R (fst+((2*r)+1)))).Lo),J (((gt R (fst+((2*r)+1)))).Hi)] r' r' r' r')<|Y' r' r' (D6 hC.1 rfl rfl (hC.2.1 _ (gt R (fst+r)) (gt R (fst+((2*r)+1)))))<|C' r' r' (X.lss r' r') (fun h7=>?_) fun h7=>?_
 ·refine U' 1 r'<|V' 5 r'<|B4 24 [21,23] [21,23,100007]<|U' 7 r'<|H6 r' r' r' (fun _ _ hle_=>(X.add rfl rfl (by omega) (by omega))) (by decide)<|U' 4 r'<|Y' r' r' (B0 0 (fst+((2*r)+1)))<|Y' r' r' (A.fs 0 (fst+((2*r)+1)) 0 [J (((gt R (fst+((2*r)+1)))).Lo),J (((gt R (fst+((2*r)+1)))).Hi)] r' r' r' r')<|U' 4 r'<|Y' r' r' (B0 0 (fst+r))<|Y' r' r' (A.fs 0 (fst+r) 0 [J (((gt R (fst+r))).Lo),J (((gt R (fst+r))).Hi)] r' r' r' r')<|Y' r' r' (B0 0 (fst+r))<|B3 r' r' r' r' (C6 (k:=0) (i:=fst+r) (off:=0) (us:=[J (((gt R (fst+((2*r)+1)))).Lo),J (((gt R (fst+((2*r)+1)))).Hi)]) (gt R (fst+((2*r)+1))) sizeOf23 rfl rfl rfl rfl (Nat.zero_lt_succ _) rfl (by first|omega|(simp;omega)|simp) rfl rfl (A4 rfl (A4 rfl C0)))<|Y' r' r' (B0 0 (fst+((2*r)+1)))<|B3 r' r' r' r' (C6 (k:=0) (i:=fst+((2*r)+1)) (off:=0) (us:=[J (((gt R (fst+r))).Lo),J (((gt R (fst+r))).Hi)]) (gt R (fst+r)) sizeOf23 rfl rfl rfl rfl (Nat.zero_lt_succ _) rfl (by first|omega|(simp;omega)|simp) rfl rfl (A4 rfl (A4 rfl C0)))<|V' 7 r' ?_
  obtain⟨r1_,hr1_⟩:∃qq__:Nat,((2*↑r)+1:Int)=(qq__:Int):=⟨((2*↑r)+1:Int).toNat,(by omega)⟩
  rw[hr1_]
  obtain rfl:r1_=(2*r)+1:=(by omega)
  refine J7 ((2*r)+1) ((R.set (fst+r) (gt R (fst+((2*r)+1)))).set (fst+((2*r)+1)) (gt R (fst+r))) ?_
  refine⟨by omega,hS.tsw (by omega) (by omega) (by omega),?_⟩
  have hlt_:=(hC.cl hBR (i:=fst+r) (j:=fst+((2*r)+1))).1 (by assumption)
  refine A8S (c:=(2*r)+1) hX (by omega) (by omega) (by omega) hlt_ (fun d_ hd1_ hd2_=>?_)
  rcases hd1_ with rfl|rfl <;> first|exact Int.le_refl _|omega|exact Int.le_of_lt ((hC.cl hBR (i:=fst+(2*r+1)) (j:=fst+(2*r+1)+1)).1 (by assumption))|exact Int.not_lt.1 (fun h_=>absurd ((hC.cl hBR (i:=fst+(2*r+1)) (j:=fst+(2*r+1)+1)).2 h_) (by assumption))
 refine U' 1 r'<|V' 7 r'<|F1 r'<|G0 ?_
 refine⟨rfl,_,rfl,hS,A7N hX (fun d_ hd1_ hd2_=>?_)⟩
 exact A4b
theorem C3d(m:Mem)(hL:L.length≤1000000)(hB:bdS L)(hC:CmpOk fc cf)(hza:za=a)(hzb:zb=b)(hab:a<b)(hbl:b≤L.length):Mut prog 265 #[v,J za,J zb,Fc fc] m [A5 v 23 L] (fun _ Es u=>u= .tuple #[]∧∃R,Es=[A5 v 23 R]∧Seg L R a b∧Srt Span.Lo R a b):=by
 subst hza
 subst hzb
 have hn_:a+(b-a)=b:=(by omega)
 refine G3 func265 r' ntmps265 fun wld=>q' 24 r'<|y' (X.quo rfl rfl (by omega) (by omega) (by omega))<|v' 4 r' ?_
 rw[show((↑b-↑a-1)/2:Int)=(((b-a-1)/2+1:Nat):Int)-1 by omega]
 refine O6 (fun(i:Nat) (R:List Span)=>i) (fun i R=>[A5 (v) 23 (R)]) (fun i R=>[(0,v),(3,Fc fc),(8,J a),(9,J 0),(10,J (↑b-↑a)),(11,J (↑i-1))]) (fun i R=>i≤b+1∧Seg L R a (a+(b-a))∧Hp Span.Lo R a i (b-a)) ((b-a-1)/2+1) L ?_ ?_
 ·exact⟨by omega,.refl _ _ _,C3j _ _ (by omega)⟩
 rintro i R ⟨hi,hS,hH⟩
 refine K6 (fun hgood0=>?_)
 refine have hSl:=hS.len;have hBR:=J0 hB hS.perm;q' 4 r'<|c' (X.geq r' r') (fun h2=>?_) fun h2=>?_
 ·refine v' 13 r' ?_
  refine C2 (C3 (A:=[]) call305 rfl (.refl _) (B5R _ (L:=R) (by omega) (by first|assumption|exact A1I (by assumption) _ _) hC (lo:=i-1) (hi:=b-a) (fst:=a) (by omega) (by omega) (by omega) (by omega) (by omega) (by first|exact hsw_.2.1|(rw[show i-1+1=i by omega];exact hH)|(simp only[show(↑i-1:Int).toNat+1=i by omega];exact hH)))) (by decide) (fun m3 Es_ u_ hle4 hR_=>?_)
  obtain⟨rfl,R5,rfl,hR6⟩:=hR_
  refine v' 9 r' ?_
  rw[show((↑i:Int)-1-1)=((i-1:Nat):Int)-1 by omega]
  exact E5 hgood0 hle4<|J7 (i-1) R5<|⟨by omega,hS.trans hR6.1,hR6.2⟩
 refine v' 16 r' ?_
 rw[show(↑b-↑a-1:Int)=((b-a:Nat):Int)-1 by omega]
 refine O6 (fun(i:Nat) (R:List Span)=>i) (fun i R=>[A5 (v) 23 (R)]) (fun i R=>[(0,v),(3,Fc fc),(8,J a),(9,J 0),(12,J (↑i-1))]) (fun i R=>i≤b-a∧HpS Span.Lo L R a i (b-a)) (b-a) R ?_ ?_
 ·obtain rfl:i=0:=(by omega)
  exact⟨by omega,B8G hS hH⟩
 rintro i R ⟨hi,hX⟩
 refine K6 (fun hgood1=>?_)
 refine have hSl:=hX.seg.len;have hBR:=J0 hB hX.seg.perm;q' 4 r'<|c' (X.geq r' r') (fun h8=>?_) fun h8=>?_
 ·refine v' 8 r'<|B4 20 [17,19] [17,19,100005]<|U' 5 r'<|H6 r' r' r' (fun _ _ hle_=>(X.add rfl rfl (by omega) (by omega))) (by decide)<|U' 4 r'<|Y' r' r' (N7 (k:=0) runUnderlying28 sizeOf23 rfl rfl rfl (by first|omega|(simp;omega)|simp) (by first|omega|(simp;omega)|simp))<|Y' r' r' (A.fs 0 ((↑a+(↑i-1):Int).toNat) 0 [J (((gt R ((↑a+(↑i-1):Int).toNat))).Lo),J (((gt R ((↑a+(↑i-1):Int).toNat))).Hi)] r' r' r' r')<|U' 2 r'<|Y' r' r' (B0 0 a)<|Y' r' r' (A.fs 0 (a) 0 [J (((gt R a)).Lo),J (((gt R a)).Hi)] r' r' r' r')<|Y' r' r' (B0 0 a)<|B3 r' r' r' r' (C6 (k:=0) (i:=a) (off:=0) (us:=[J (((gt R ((↑a+(↑i-1):Int).toNat))).Lo),J (((gt R ((↑a+(↑i-1):Int).toNat))).Hi)]) (gt R ((↑a+(↑i-1):Int).toNat)) sizeOf23 rfl rfl rfl rfl (Nat.zero_lt_succ _) rfl (by first|omega|(simp;omega)|simp) rfl rfl (A4 rfl (A4 rfl C0)))<|Y' r' r' (N7 (k:=0) runUnderlying28 sizeOf23 rfl rfl rfl (by first|omega|(simp;omega)|simp) (by first|omega|(simp;omega)|simp))<|B3 r' r' r' r' (C6 (k:=0) (i:=(↑a+(↑i-1):Int).toNat) (off:=0) (us:=[J (((gt R a)).Lo),J (((gt R a)).Hi)]) (gt R a) sizeOf23 rfl rfl rfl rfl (Nat.zero_lt_succ _) rfl (by first|omega|(simp;omega)|simp) rfl rfl (A4 rfl (A4 rfl C0)))<|V' 1 r' ?_
  obtain⟨R1,hR1⟩:∃qq__:List Span,qq__=(R.set a (gt R ((↑a+(↑i-1):Int).toNat))).set ((↑a+(↑i-1):Int).toNat) (gt R a):=⟨_,rfl⟩
  have hsw_:Seg L R1 a (a+(b-a))∧Hp Span.Lo R1 a 1 (i-1)∧(∀p q,p<q→i-1≤q→q<b-a→(gt R1 (a+p)).Lo≤(gt R1 (a+q)).Lo):=(by rw[hR1,show(↑a+(↑i-1):Int).toNat=a+(i-1) by omega];exact C1d (s:=i-1) (by rw[show i-1+1=i by omega];exact hX) (by omega) (by omega))
  have he9:((R.set a (gt R ((↑a+(↑i-1):Int).toNat))).set ((↑a+(↑i-1):Int).toNat) (gt R a))=R1:=hR1.symm
  rw[he9]
  refine have hsl_:=hsw_.1.len;have hBR1:=J0 hB hsw_.1.perm;q' 6 r' ?_
  refine C2 (C3 (A:=[]) call305 rfl (.refl _) (B5R _ (L:=R1) (by omega) (by first|assumption|exact A1I (by assumption) _ _) hC (lo:=0) (hi:=i-1) (fst:=a) (by omega) (by omega) (by omega) (by omega) (by omega) (by first|exact hsw_.2.1|(rw[show i-1+1=i by omega];exact hH)|(simp only[show(↑i-1:Int).toNat+1=i by omega];exact hH)))) (by decide) (fun m10 Es_ u_ hle11 hR_=>?_)
  obtain⟨rfl,R12,rfl,hR13⟩:=hR_
  refine v' 9 r' ?_
  rw[show((↑i:Int)-1-1)=((i-1:Nat):Int)-1 by omega]
  exact E5 hgood1 hle11<|J7 (i-1) R12<|⟨by omega,C1z (by omega) (by omega) hsw_.1 hsw_.2.2 hR13.1 hR13.2⟩
 refine v' 7 r'<|D9 r'<|G0 ?_
 obtain rfl:i=0:=(by omega)
 have hfin:=C3g hX
 rw[hn_]at hfin
 exact⟨rfl,_,rfl,hfin⟩
theorem C0q:CmpOk 149 B3h:=⟨call149,fun m a b=>C6t m _ a rfl _ b rfl,fun _ _ ha hb=>B2R ha hb⟩
end Go.Proofs.T10
