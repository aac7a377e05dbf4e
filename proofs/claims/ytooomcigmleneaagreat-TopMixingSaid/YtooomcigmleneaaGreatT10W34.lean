import Derived.Test.YtooomcigmleneaaGreatKxW
import Derived.Test.YtooomcigmleneaaGreatKyP
import Derived.Test.YtooomcigmleneaaGreatT10Ty
import Derived.Test.YtooomcigmleneaaGreatKxU
import Derived.Test.YtooomcigmleneaaGreatT10SWk
import Derived.Test.YtooomcigmleneaaGreatT10W32
import Derived.Test.YtooomcigmleneaaGreatKyG
set_option linter.all false
set_option maxHeartbeats 8000000
namespace Go.Proofs.S10
open Tryz
set_option maxRecDepth 20000
open Go Go.Kx Go.Proofs.T10
abbrev O2:=BigV 38
variable{L:List O2}{Q:NoteT→Prop}{a b b0 fc:Nat}{sw:Int}{v:Value}{za zb:Int}
instance:Flat O2:=BigV.flat 38 (by decide)
def A2h(fc:Nat):Prop:=Enters prog fc∧∀(m:Mem) (a b:O2),GoodB (fun _:NoteT=>True) m a→GoodB (fun _:NoteT=>True) m b→∃z:Int,Exact prog fc #[.agg a.cells.toArray,.agg b.cells.toArray] m (J z)
theorem C7f(m:Mem)(hL:L.length≤1000000)(hG:GoodL Q m L)(hC:A2h fc)(hza:za=a)(hzb:zb=b)(hab:a≤b)(hbl:b≤L.length):Mut prog 314 #[v,J za,J zb,Fc fc] m [A5 v 200 L] (fun _ Es u=>u= .tuple #[]∧∃R,Es=[A5 v 200 R]∧R.Perm L∧True):=by
 subst hza
 subst hzb
 refine G3 func314 r' ntmps314 fun wld=>q' 8 r' ?_
 refine O6 (fun(i:Nat) (R:List O2)=>b-i) (fun i R=>[A5 (v) 200 (R)]) (fun i R=>[(0,v),(1,J a),(2,J b),(3,Fc fc),(8,J i)]) (fun i R=>a+1≤i∧R.Perm L) (a+1) L ?_ ?_
 ·exact⟨by omega,.refl _⟩
 rintro i R ⟨hi,hP⟩
 refine have hPl:=hP.length_eq;q' 5 r'<|c' (X.lss r' r') (fun h2=>?_) fun h2=>?_
 ·refine v' 14 r' ?_
  refine O6 (fun(j:Nat) (R:List O2)=>j) (fun j R=>[A5 (v) 200 (R)]) (fun j R=>[(0,v),(1,J a),(2,J b),(3,Fc fc),(8,J i),(9,J j)]) (fun j R=>a≤j∧j≤i∧i<b∧R.Perm L) i R ?_ ?_
  ·exact⟨by omega,by omega,by omega,hP⟩
  rintro j R ⟨hj1,hj2,hj3,hP⟩
  refine have hPl:=hP.length_eq;q' 2 r'<|B4 17 [] []<|U' 2 r'<|C' r' r' (X.gtr r' r') (fun h4=>?_) fun h4=>?_
  ·refine U' 4 r'<|Y' r' r' (B0 0 j)<|Y' r' r' (E4 0 (j) r' r' r')<|U' 3 r'<|Y' r' r' (B0 0 (j-1))<|Y' r' r' (E4 0 ((j-1)) r' r' r') ?_
   obtain⟨z5,hz6⟩:=hC.2 _ (gt R j) (gt R (j-1)) (GoodL.at_ (by first|exact hG|exact hG.perm (by assumption)) (by first|omega|(simp;omega))).any (GoodL.at_ (by first|exact hG|exact hG.perm (by assumption)) (by first|omega|(simp;omega))).any
   refine Y' r' r' (D6 hC.1 rfl rfl hz6)<|C' r' r' (X.lss r' r') (fun h7=>?_) fun h7=>?_
   ·refine U' 1 r'<|V' 6 r'<|B4 18 [15,17] [15,17,100004]<|U' 4 r'<|H6 r' r' r' (fun _ _ hle_=>(X.sub rfl rfl (by omega) (by omega))) (by decide)<|U' 3 r'<|Y' r' r' (B0 0 (j-1))<|Y' r' r' (E4 0 ((j-1)) r' r' r')<|U' 2 r'<|Y' r' r' (B0 0 j)<|Y' r' r' (E4 0 (j) r' r' r')<|Y' r' r' (B0 0 j)<|B3 r' r' r' r' (D4 (k:=0) (i:=j) (a:=gt R (j-1)) sizeOf200 rfl rfl rfl rfl (by first|omega|(simp;omega)|simp))<|Y' r' r' (B0 0 (j-1))<|B3 r' r' r' r' (D4 (k:=0) (i:=(j-1)) (a:=gt R j) sizeOf200 rfl rfl rfl rfl (by first|omega|(simp;omega)|simp))<|V' 8 r' ?_
    obtain⟨j1_,hj1_⟩:∃qq__:Nat,(↑j-1:Int)=(qq__:Int):=⟨(↑j-1:Int).toNat,(by omega)⟩
    rw[hj1_]
    obtain rfl:j1_=j-1:=(by omega)
    exact J7 (j-1) ((R.set j (gt R (j-1))).set (j-1) (gt R j))<|⟨by omega,by omega,by omega,G6 hP (by omega) (by omega)⟩
   exact U' 1 r'<|V' 14 r'<|J7 (i+1) R<|⟨by omega,hP⟩
  exact U' 14 r'<|V' 14 r'<|J7 (i+1) R<|⟨by omega,hP⟩
 exact v' 7 r'<|D9 r'<|G0<|⟨rfl,_,rfl,hP,trivial⟩
theorem C7X(m:Mem)(hL:L.length≤1000000)(hG:GoodL Q m L)(hC:A2h fc)(hza:za=a)(hzb:zb=b)(hab:a≤b)(hbl:b≤L.length):Mut prog 318 #[v,J za,J zb,Fc fc] m [A5 v 200 L] (fun _ Es u=>u= .tuple #[]∧∃R,Es=[A5 v 200 R]∧R.Perm L∧True):=by
 subst hza
 subst hzb
 refine G3 func318 r' ntmps318 fun wld=>q' 14 r' ?_
 refine lq3 (fun(i:Int) (j:Int) (R:List O2)=>(j-i).toNat) (fun i j R=>[A5 (v) 200 (R)]) (fun i j R=>[(0,v),(8,J i),(9,J j)]) (fun i j R=>(a:Int)≤i∧j<b∧R.Perm L) (↑a) (↑b-1) L ?_ ?_
 ·exact⟨by omega,by omega,.refl _⟩
 rintro i j R ⟨hi,hj,hP⟩
 refine have hPl:=hP.length_eq;q' 5 r'<|c' (X.lss r' r') (fun h2=>?_) fun h2=>?_
 ·exact v' 7 r'<|B4 16 [13,15] [13,15]<|U' 6 r'<|Y' r' r' (N7 (k:=0) runUnderlying52 sizeOf200 rfl rfl rfl (by first|omega|(simp;omega)|simp) (by first|omega|(simp;omega)|simp))<|Y' r' r' (E4 0 (((j:Int).toNat)) r' r' r')<|U' 2 r'<|Y' r' r' (N7 (k:=0) runUnderlying52 sizeOf200 rfl rfl rfl (by first|omega|(simp;omega)|simp) (by first|omega|(simp;omega)|simp))<|Y' r' r' (E4 0 (((i:Int).toNat)) r' r' r')<|Y' r' r' (N7 (k:=0) runUnderlying52 sizeOf200 rfl rfl rfl (by first|omega|(simp;omega)|simp) (by first|omega|(simp;omega)|simp))<|B3 r' r' r' r' (D4 (k:=0) (i:=((i:Int).toNat)) (a:=gt R ((j:Int).toNat)) sizeOf200 rfl rfl rfl rfl (by first|omega|(simp;omega)|simp))<|Y' r' r' (N7 (k:=0) runUnderlying52 sizeOf200 rfl rfl rfl (by first|omega|(simp;omega)|simp) (by first|omega|(simp;omega)|simp))<|B3 r' r' r' r' (D4 (k:=0) (i:=((j:Int).toNat)) (a:=gt R ((i:Int).toNat)) sizeOf200 rfl rfl rfl rfl (by first|omega|(simp;omega)|simp))<|V' 15 r'<|X1 (i+1) (j-1) ((R.set ((i:Int).toNat) (gt R ((j:Int).toNat))).set ((j:Int).toNat) (gt R ((i:Int).toNat)))<|⟨by omega,by omega,G6 hP (by omega) (by omega)⟩
 exact v' 7 r'<|D9 r'<|G0<|⟨rfl,_,rfl,hP,trivial⟩
theorem B7Z(m:Mem)(hL:L.length≤1000000)(hG:GoodL Q m L)(hC:A2h fc){lo hi fst:Nat}{zlo zhi zfst:Int}(hzlo:zlo=lo)(hzhi:zhi=hi)(hzfst:zfst=fst)(hlo:lo≤1000000)(hbl:fst+hi≤L.length):Mut prog 330 #[v,J zlo,J zhi,J zfst,Fc fc] m [A5 v 200 L] (fun _ Es u=>u= .tuple #[]∧∃R,Es=[A5 v 200 R]∧R.Perm L∧True):=by
 subst hzlo
 subst hzhi
 subst hzfst
 refine G3 func330 r' ntmps330 fun wld=>q' 7 r' ?_
 refine O6 (fun(r:Nat) (R:List O2)=>hi-r) (fun r R=>[A5 (v) 200 (R)]) (fun r R=>[(0,v),(2,J hi),(3,J fst),(4,Fc fc),(10,J r)]) (fun r R=>r≤1000000∧R.Perm L) lo L ?_ ?_
 ·exact⟨by omega,.refl _⟩
 rintro r R ⟨hr,hP⟩
 refine have hPl:=hP.length_eq;q' 4 r'<|y' (X.mul rfl rfl (by omega) (by omega))<|v' 9 r'<|c' (X.geq r' r') (fun h2=>?_) fun h2=>?_
 ·exact v' 8 r'<|D9 r'<|G0<|⟨rfl,_,rfl,hP,trivial⟩
 refine v' 7 r'<|B4 22 [] []<|U' 3 r'<|C' r' r' (X.lss r' r') (fun h3=>?_) fun h3=>?_
 ·refine U' 6 r'<|Y' r' r' (B0 0 (fst+((2*r)+1)))<|Y' r' r' (E4 0 ((fst+((2*r)+1))) r' r' r')<|U' 5 r'<|Y' r' r' (B0 0 ((fst+((2*r)+1))+1))<|Y' r' r' (E4 0 (((fst+((2*r)+1))+1)) r' r' r') ?_
  obtain⟨z4,hz5⟩:=hC.2 _ (gt R (fst+((2*r)+1))) (gt R ((fst+((2*r)+1))+1)) (GoodL.at_ (by first|exact hG|exact hG.perm (by assumption)) (by first|omega|(simp;omega))).any (GoodL.at_ (by first|exact hG|exact hG.perm (by assumption)) (by first|omega|(simp;omega))).any
  refine Y' r' r' (D6 hC.1 rfl rfl hz5)<|C' r' r' (X.lss r' r') (fun h6=>?_) fun h6=>?_
  ·refine U' 1 r'<|V' 10 r'<|B4 16 [] []<|U' 5 r'<|Y' r' r' (B0 0 (fst+r))<|Y' r' r' (E4 0 ((fst+r)) r' r' r')<|U' 4 r'<|Y' r' r' (B0 0 (fst+(((2*r)+1)+1)))<|Y' r' r' (E4 0 ((fst+(((2*r)+1)+1))) r' r' r') ?_
   obtain⟨z7,hz8⟩:=hC.2 _ (gt R (fst+r)) (gt R (fst+(((2*r)+1)+1))) (GoodL.at_ (by first|exact hG|exact hG.perm (by assumption)) (by first|omega|(simp;omega))).any (GoodL.at_ (by first|exact hG|exact hG.perm (by assumption)) (by first|omega|(simp;omega))).any
   refine Y' r' r' (D6 hC.1 rfl rfl hz8)<|C' r' r' (X.lss r' r') (fun h9=>?_) fun h9=>?_
   ·refine U' 1 r'<|V' 5 r'<|B4 24 [21,23] [21,23,100007]<|U' 7 r'<|H6 r' r' r' (fun _ _ hle_=>(X.add rfl rfl (by omega) (by omega))) (by decide)<|U' 4 r'<|Y' r' r' (B0 0 (fst+(((2*r)+1)+1)))<|Y' r' r' (E4 0 ((fst+(((2*r)+1)+1))) r' r' r')<|U' 4 r'<|Y' r' r' (B0 0 (fst+r))<|Y' r' r' (E4 0 ((fst+r)) r' r' r')<|Y' r' r' (B0 0 (fst+r))<|B3 r' r' r' r' (D4 (k:=0) (i:=(fst+r)) (a:=gt R (fst+(((2*r)+1)+1))) sizeOf200 rfl rfl rfl rfl (by first|omega|(simp;omega)|simp))<|Y' r' r' (B0 0 (fst+(((2*r)+1)+1)))<|B3 r' r' r' r' (D4 (k:=0) (i:=(fst+(((2*r)+1)+1))) (a:=gt R (fst+r)) sizeOf200 rfl rfl rfl rfl (by first|omega|(simp;omega)|simp))<|V' 7 r' ?_
    obtain⟨r1_,hr1_⟩:∃qq__:Nat,(((2*↑r)+1)+1:Int)=(qq__:Int):=⟨(((2*↑r)+1)+1:Int).toNat,(by omega)⟩
    rw[hr1_]
    obtain rfl:r1_=((2*r)+1)+1:=(by omega)
    exact J7 (((2*r)+1)+1) ((R.set (fst+r) (gt R (fst+(((2*r)+1)+1)))).set (fst+(((2*r)+1)+1)) (gt R (fst+r)))<|⟨by omega,G6 hP (by omega) (by omega)⟩
   exact U' 1 r'<|V' 7 r'<|F1 r'<|G0<|⟨rfl,_,rfl,hP,trivial⟩
  refine U' 1 r'<|V' 6 r'<|B4 16 [] []<|U' 5 r'<|Y' r' r' (B0 0 (fst+r))<|Y' r' r' (E4 0 ((fst+r)) r' r' r')<|U' 4 r'<|Y' r' r' (B0 0 (fst+((2*r)+1)))<|Y' r' r' (E4 0 ((fst+((2*r)+1))) r' r' r') ?_
  obtain⟨z10,hz11⟩:=hC.2 _ (gt R (fst+r)) (gt R (fst+((2*r)+1))) (GoodL.at_ (by first|exact hG|exact hG.perm (by assumption)) (by first|omega|(simp;omega))).any (GoodL.at_ (by first|exact hG|exact hG.perm (by assumption)) (by first|omega|(simp;omega))).any
  refine Y' r' r' (D6 hC.1 rfl rfl hz11)<|C' r' r' (X.lss r' r') (fun h12=>?_) fun h12=>?_
  ·refine U' 1 r'<|V' 5 r'<|B4 24 [21,23] [21,23,100007]<|U' 7 r'<|H6 r' r' r' (fun _ _ hle_=>(X.add rfl rfl (by omega) (by omega))) (by decide)<|U' 4 r'<|Y' r' r' (B0 0 (fst+((2*r)+1)))<|Y' r' r' (E4 0 ((fst+((2*r)+1))) r' r' r')<|U' 4 r'<|Y' r' r' (B0 0 (fst+r))<|Y' r' r' (E4 0 ((fst+r)) r' r' r')<|Y' r' r' (B0 0 (fst+r))<|B3 r' r' r' r' (D4 (k:=0) (i:=(fst+r)) (a:=gt R (fst+((2*r)+1))) sizeOf200 rfl rfl rfl rfl (by first|omega|(simp;omega)|simp))<|Y' r' r' (B0 0 (fst+((2*r)+1)))<|B3 r' r' r' r' (D4 (k:=0) (i:=(fst+((2*r)+1))) (a:=gt R (fst+r)) sizeOf200 rfl rfl rfl rfl (by first|omega|(simp;omega)|simp))<|V' 7 r' ?_
   obtain⟨r1_,hr1_⟩:∃qq__:Nat,((2*↑r)+1:Int)=(qq__:Int):=⟨((2*↑r)+1:Int).toNat,(by omega)⟩
   rw[hr1_]
   obtain rfl:r1_=(2*r)+1:=(by omega)
   exact J7 ((2*r)+1) ((R.set (fst+r) (gt R (fst+((2*r)+1)))).set (fst+((2*r)+1)) (gt R (fst+r)))<|⟨by omega,G6 hP (by omega) (by omega)⟩
  exact U' 1 r'<|V' 7 r'<|F1 r'<|G0<|⟨rfl,_,rfl,hP,trivial⟩
 refine U' 18 r'<|V' 6 r'<|B4 16 [] []<|U' 5 r'<|Y' r' r' (B0 0 (fst+r))<|Y' r' r' (E4 0 ((fst+r)) r' r' r')<|U' 4 r'<|Y' r' r' (B0 0 (fst+((2*r)+1)))<|Y' r' r' (E4 0 ((fst+((2*r)+1))) r' r' r') ?_
 obtain⟨z13,hz14⟩:=hC.2 _ (gt R (fst+r)) (gt R (fst+((2*r)+1))) (GoodL.at_ (by first|exact hG|exact hG.perm (by assumption)) (by first|omega|(simp;omega))).any (GoodL.at_ (by first|exact hG|exact hG.perm (by assumption)) (by first|omega|(simp;omega))).any
 refine Y' r' r' (D6 hC.1 rfl rfl hz14)<|C' r' r' (X.lss r' r') (fun h15=>?_) fun h15=>?_
 ·refine U' 1 r'<|V' 5 r'<|B4 24 [21,23] [21,23,100007]<|U' 7 r'<|H6 r' r' r' (fun _ _ hle_=>(X.add rfl rfl (by omega) (by omega))) (by decide)<|U' 4 r'<|Y' r' r' (B0 0 (fst+((2*r)+1)))<|Y' r' r' (E4 0 ((fst+((2*r)+1))) r' r' r')<|U' 4 r'<|Y' r' r' (B0 0 (fst+r))<|Y' r' r' (E4 0 ((fst+r)) r' r' r')<|Y' r' r' (B0 0 (fst+r))<|B3 r' r' r' r' (D4 (k:=0) (i:=(fst+r)) (a:=gt R (fst+((2*r)+1))) sizeOf200 rfl rfl rfl rfl (by first|omega|(simp;omega)|simp))<|Y' r' r' (B0 0 (fst+((2*r)+1)))<|B3 r' r' r' r' (D4 (k:=0) (i:=(fst+((2*r)+1))) (a:=gt R (fst+r)) sizeOf200 rfl rfl rfl rfl (by first|omega|(simp;omega)|simp))<|V' 7 r' ?_
  obtain⟨r1_,hr1_⟩:∃qq__:Nat,((2*↑r)+1:Int)=(qq__:Int):=⟨((2*↑r)+1:Int).toNat,(by omega)⟩
  rw[hr1_]
  obtain rfl:r1_=(2*r)+1:=(by omega)
  exact J7 ((2*r)+1) ((R.set (fst+r) (gt R (fst+((2*r)+1)))).set (fst+((2*r)+1)) (gt R (fst+r)))<|⟨by omega,G6 hP (by omega) (by omega)⟩
 exact U' 1 r'<|V' 7 r'<|F1 r'<|G0<|⟨rfl,_,rfl,hP,trivial⟩
theorem C5g(m:Mem)(hL:L.length≤1000000)(hG:GoodL Q m L)(hC:A2h fc)(hza:za=a)(hzb:zb=b)(hab:a<b)(hbl:b≤L.length):Mut prog 315 #[v,J za,J zb,Fc fc] m [A5 v 200 L] (fun _ Es u=>u= .tuple #[]∧∃R,Es=[A5 v 200 R]∧R.Perm L∧True):=by
 subst hza
 subst hzb
 refine G3 func315 r' ntmps315 fun wld=>q' 24 r'<|y' (X.quo rfl rfl (by omega) (by omega) (by omega))<|v' 4 r' ?_
 rw[show((↑b-↑a-1)/2:Int)=(((b-a-1)/2+1:Nat):Int)-1 by omega]
 refine O6 (fun(i:Nat) (R:List O2)=>i) (fun i R=>[A5 (v) 200 (R)]) (fun i R=>[(0,v),(3,Fc fc),(8,J a),(9,J 0),(10,J (↑b-↑a)),(11,J (↑i-1))]) (fun i R=>i≤b+1∧R.Perm L) ((b-a-1)/2+1) L ?_ ?_
 ·exact⟨by omega,.refl _⟩
 rintro i R ⟨hi,hP⟩
 refine K6 (fun hgood0=>?_)
 refine have hPl:=hP.length_eq;q' 4 r'<|c' (X.geq r' r') (fun h2=>?_) fun h2=>?_
 ·refine v' 13 r' ?_
  refine C2 (C3 (A:=[]) call330 rfl (.refl _) (B7Z _ (L:=R) (by first|omega|(simp;omega)) (by first|exact hG|exact hG.perm (by assumption)|exact hG.perm (G6 hP (by omega) (by omega))) hC (lo:=i-1) (hi:=b-a) (fst:=a) (by omega) (by omega) (by omega) (by omega) (by omega))) (by decide) (fun m3 Es_ u_ hle4 hR_=>?_)
  obtain⟨rfl,R5,rfl,hR6,hB7⟩:=hR_
  replace hG:=hG.mono hle4
  replace hR6:R5.Perm L:=hR6.trans (by first|exact .refl _|assumption|exact G6 hP (by omega) (by omega))
  refine have hR6l:=hR6.length_eq;v' 9 r' ?_
  rw[show((↑i:Int)-1-1)=((i-1:Nat):Int)-1 by omega]
  exact E5 hgood0 hle4<|J7 (i-1) R5<|⟨by omega,hR6⟩
 refine v' 16 r' ?_
 rw[show(↑b-↑a-1:Int)=((b-a:Nat):Int)-1 by omega]
 refine O6 (fun(i:Nat) (R:List O2)=>i) (fun i R=>[A5 (v) 200 (R)]) (fun i R=>[(0,v),(3,Fc fc),(8,J a),(9,J 0),(12,J (↑i-1))]) (fun i R=>i≤b-a∧R.Perm L) (b-a) R ?_ ?_
 ·exact⟨by omega,hP⟩
 rintro i R ⟨hi,hP⟩
 refine K6 (fun hgood1=>?_)
 refine have hPl:=hP.length_eq;q' 4 r'<|c' (X.geq r' r') (fun h9=>?_) fun h9=>?_
 ·refine v' 8 r'<|B4 20 [17,19] [17,19,100005]<|U' 5 r'<|H6 r' r' r' (fun _ _ hle_=>(X.add rfl rfl (by omega) (by omega))) (by decide)<|U' 4 r'<|Y' r' r' (B0 0 (a+(i-1)))<|Y' r' r' (E4 0 (((a+(i-1)))) r' r' r')<|U' 2 r'<|Y' r' r' (B0 0 a)<|Y' r' r' (E4 0 (a) r' r' r')<|Y' r' r' (B0 0 a)<|B3 r' r' r' r' (D4 (k:=0) (i:=a) (a:=gt R ((a+(i-1)))) sizeOf200 rfl rfl rfl rfl (by first|omega|(simp;omega)|simp))<|Y' r' r' (B0 0 (a+(i-1)))<|B3 r' r' r' r' (D4 (k:=0) (i:=((a+(i-1)))) (a:=gt R a) sizeOf200 rfl rfl rfl rfl (by first|omega|(simp;omega)|simp))<|V' 1 r' ?_
  obtain⟨R1,hR1⟩:∃qq__:List O2,qq__=(R.set a (gt R ((a+(i-1))))).set ((a+(i-1))) (gt R a):=⟨_,rfl⟩
  have hP1:R1.Perm L:=(by rw[hR1];exact G6 hP (by omega) (by omega))
  have he10:((R.set a (gt R ((a+(i-1))))).set ((a+(i-1))) (gt R a))=R1:=hR1.symm
  rw[he10]
  refine have hPl1:=hP1.length_eq;q' 6 r' ?_
  refine C2 (C3 (A:=[]) call330 rfl (.refl _) (B7Z _ (L:=R1) (by first|omega|(simp;omega)) (by first|exact hG|exact hG.perm (by assumption)|exact hG.perm (G6 hP (by omega) (by omega))) hC (lo:=0) (hi:=i-1) (fst:=a) (by omega) (by omega) (by omega) (by omega) (by omega))) (by decide) (fun m11 Es_ u_ hle12 hR_=>?_)
  obtain⟨rfl,R13,rfl,hR14,hB15⟩:=hR_
  replace hR14:R13.Perm L:=hR14.trans (by first|exact .refl _|assumption|exact G6 hP (by omega) (by omega))
  refine have hR14l:=hR14.length_eq;v' 9 r' ?_
  rw[show((↑i:Int)-1-1)=((i-1:Nat):Int)-1 by omega]
  exact E5 hgood1 hle12<|J7 (i-1) R13<|⟨by omega,hR14⟩
 exact v' 7 r'<|D9 r'<|G0<|⟨rfl,_,rfl,hP,trivial⟩
theorem C6v(m:Mem)(hL:L.length≤1000000)(hG:GoodL Q m L)(hC:A2h fc){pv:Nat}{zpv:Int}(hza:za=a)(hzb:zb=b)(hzpv:zpv=pv)(hap:a≤pv)(hpb:pv<b)(hbl:b≤L.length):Mut prog 321 #[v,J za,J zb,J zpv,Fc fc] m [A5 v 200 L] (fun _ Es u=>∃p:Nat,∃q:Bool,u= .tuple #[J p,.bool q]∧∃R,Es=[A5 v 200 R]∧R.Perm L∧(a≤p∧p<b)):=by
 subst hza
 subst hzb
 subst hzpv
 refine G3 func321 r' ntmps321 fun wld=>q' 7 r'<|B4 16 [13,15] [13,15]<|U' 6 r'<|Y' r' r' (B0 0 pv)<|Y' r' r' (E4 0 (pv) r' r' r')<|U' 2 r'<|Y' r' r' (B0 0 a)<|Y' r' r' (E4 0 (a) r' r' r')<|Y' r' r' (B0 0 a)<|B3 r' r' r' r' (D4 (k:=0) (i:=a) (a:=gt L pv) sizeOf200 rfl rfl rfl rfl (by first|omega|(simp;omega)|simp))<|Y' r' r' (B0 0 pv)<|B3 r' r' r' r' (D4 (k:=0) (i:=pv) (a:=gt L a) sizeOf200 rfl rfl rfl rfl (by first|omega|(simp;omega)|simp))<|V' 2 r' ?_
 obtain⟨R1,hR1⟩:∃qq__:List O2,qq__=(L.set a (gt L pv)).set pv (gt L a):=⟨_,rfl⟩
 have hP1:R1.Perm L:=(by rw[hR1];exact G6 (.refl _) (by omega) (by omega))
 have he1:((L.set a (gt L pv)).set pv (gt L a))=R1:=hR1.symm
 rw[he1]
 refine have hPl1:=hP1.length_eq;q' 11 r' ?_
 obtain⟨j0_,hj0_⟩:∃qq__:Nat,(↑b-1:Int)=(qq__:Int):=⟨(↑b-1:Int).toNat,(by omega)⟩
 rw[hj0_]
 refine I0 (fun(i:Nat)=>j0_+1-i) (fun i=>[A5 (v) 200 (R1)]) (fun i=>[(0,v),(1,J a),(4,Fc fc),(12,J i),(13,J j0_)]) (fun i=>a+1≤i∧i≤j0_+1) (a+1) ?_ ?_
 ·exact⟨by omega,by omega⟩
 rintro i ⟨hi1,hi2⟩
 refine q' 1 r' ?_
 refine cu1 (fun(b3_:Bool)=>m) (fun b3_=>[A5 (v) 200 (R1)]) (fun b3_=>[(0,v),(1,J a),(4,Fc fc),(12,J i),(13,J j0_),(47,.bool (b3_))]) (fun b3_=>(b3_=true→i≤j0_)) ?_ ?_
 ·refine B4 16 [] []<|U' 2 r'<|C' r' r' (X.leq r' r') (fun h3=>?_) fun h3=>?_
  ·refine U' 4 r'<|Y' r' r' (B0 0 i)<|Y' r' r' (E4 0 (i) r' r' r')<|U' 2 r'<|Y' r' r' (B0 0 a)<|Y' r' r' (E4 0 (a) r' r' r') ?_
   obtain⟨z4,hz5⟩:=hC.2 _ (gt R1 i) (gt R1 a) (GoodL.at_ (by first|exact hG|exact hG.perm (by assumption)) (by first|omega|(simp;omega))).any (GoodL.at_ (by first|exact hG|exact hG.perm (by assumption)) (by first|omega|(simp;omega))).any
   refine Y' r' r' (D6 hC.1 rfl rfl hz5)<|C' r' r' (X.lss r' r') (fun h6=>?_) fun h6=>?_
   ·exact U' 1 r'<|V' 1 r'<|I9 true<|fun h_=>by first|(cases h_;done)|omega
   exact U' 1 r'<|V' 1 r'<|I9 false<|fun h_=>by first|(cases h_;done)|omega
  exact U' 13 r'<|V' 1 r'<|I9 false<|fun h_=>by first|(cases h_;done)|omega
 rintro b3_ hF7
 try dsimp only at hF7
 have hyes3_:=hF7
 refine K8 rfl (fun h8=>?_) (fun h8=>?_)
 ·refine q' 3 r' ?_
  have hy3_:=hyes3_ (by assumption)
  exact q' 7 r'<|G5 (i+1)<|⟨by omega,by omega⟩
 refine q' 7 r' ?_
 refine I0 (fun(j:Nat)=>j) (fun j=>[A5 (v) 200 (R1)]) (fun j=>[(0,v),(1,J a),(4,Fc fc),(12,J i),(13,J j)]) (fun j=>j≤j0_∧i≤j+1) j0_ ?_ ?_
 ·exact⟨by omega,by omega⟩
 rintro j ⟨hj1,hj2⟩
 refine q' 1 r' ?_
 refine cu1 (fun(b5_:Bool)=>m) (fun b5_=>[A5 (v) 200 (R1)]) (fun b5_=>[(0,v),(1,J a),(4,Fc fc),(12,J i),(13,J j),(66,.bool (b5_))]) (fun b5_=>(b5_=true→i≤j)) ?_ ?_
 ·refine B4 17 [] []<|U' 2 r'<|C' r' r' (X.leq r' r') (fun h10=>?_) fun h10=>?_
  ·refine U' 4 r'<|Y' r' r' (B0 0 j)<|Y' r' r' (E4 0 (j) r' r' r')<|U' 2 r'<|Y' r' r' (B0 0 a)<|Y' r' r' (E4 0 (a) r' r' r') ?_
   obtain⟨z11,hz12⟩:=hC.2 _ (gt R1 j) (gt R1 a) (GoodL.at_ (by first|exact hG|exact hG.perm (by assumption)) (by first|omega|(simp;omega))).any (GoodL.at_ (by first|exact hG|exact hG.perm (by assumption)) (by first|omega|(simp;omega))).any
   refine Y' r' r' (D6 hC.1 rfl rfl hz12)<|C' r' r' (X.lss r' r') (fun h13=>?_) fun h13=>?_
   ·exact U' 2 r'<|V' 1 r'<|I9 false<|fun h_=>by first|(cases h_;done)|omega
   exact U' 2 r'<|V' 1 r'<|I9 true<|fun h_=>by first|(cases h_;done)|omega
  exact U' 14 r'<|V' 1 r'<|I9 false<|fun h_=>by first|(cases h_;done)|omega
 rintro b5_ hF14
 try dsimp only at hF14
 have hyes5_:=hF14
 refine K8 rfl (fun h15=>?_) (fun h15=>?_)
 ·refine q' 3 r' ?_
  have hy5_:=hyes5_ (by assumption)
  refine q' 7 r' ?_
  obtain⟨j1_,hj1_⟩:∃qq__:Nat,(↑j-1:Int)=(qq__:Int):=⟨(↑j-1:Int).toNat,(by omega)⟩
  rw[hj1_]
  exact G5 j1_<|⟨by omega,by omega⟩
 refine q' 10 r'<|c' (X.gtr r' r') (fun h16=>?_) fun h16=>?_
 ·exact v' 4 r'<|B4 16 [13,15] [13,15]<|U' 6 r'<|Y' r' r' (B0 0 a)<|Y' r' r' (E4 0 (a) r' r' r')<|U' 2 r'<|Y' r' r' (B0 0 j)<|Y' r' r' (E4 0 (j) r' r' r')<|Y' r' r' (B0 0 j)<|B3 r' r' r' r' (D4 (k:=0) (i:=j) (a:=gt R1 a) sizeOf200 rfl rfl rfl rfl (by first|omega|(simp;omega)|simp))<|Y' r' r' (B0 0 a)<|B3 r' r' r' r' (D4 (k:=0) (i:=a) (a:=gt R1 j) sizeOf200 rfl rfl rfl rfl (by first|omega|(simp;omega)|simp))<|V' 10 r'<|B6 r' r' r'<|G0<|⟨_,_,rfl,_,rfl,G6 hP1 (by omega) (by omega),by omega⟩
 refine v' 6 r'<|B4 16 [13,15] [13,15]<|U' 6 r'<|Y' r' r' (B0 0 j)<|Y' r' r' (E4 0 (j) r' r' r')<|U' 2 r'<|Y' r' r' (B0 0 i)<|Y' r' r' (E4 0 (i) r' r' r')<|Y' r' r' (B0 0 i)<|B3 r' r' r' r' (D4 (k:=0) (i:=i) (a:=gt R1 j) sizeOf200 rfl rfl rfl rfl (by first|omega|(simp;omega)|simp))<|Y' r' r' (B0 0 j)<|B3 r' r' r' r' (D4 (k:=0) (i:=j) (a:=gt R1 i) sizeOf200 rfl rfl rfl rfl (by first|omega|(simp;omega)|simp))<|V' 14 r' ?_
 obtain⟨q0_,hq0_⟩:∃qq__:Nat,(↑j-1:Int)=(qq__:Int):=⟨(↑j-1:Int).toNat,(by omega)⟩
 rw[hq0_]
 refine L9<|q' 2 r' ?_
 refine lq3 (fun(p:Nat) (q:Nat) (R:List O2)=>q+1-p) (fun p q R=>[A5 (v) 200 (R)]) (fun p q R=>[(0,v),(1,J a),(4,Fc fc),(12,J p),(13,J q)]) (fun p q R=>a+1≤p∧a≤q∧q<b∧R.Perm L) (i+1) q0_ ((R1.set i (gt R1 j)).set j (gt R1 i)) ?_ ?_
 ·exact⟨by omega,by omega,by omega,G6 hP1 (by omega) (by omega)⟩
 rintro p q R ⟨hp,hq1,hq2,hP⟩
 refine have hPl:=hP.length_eq;q' 3 r' ?_
 refine I0 (fun(x:Nat)=>q+1-x) (fun x=>[A5 (v) 200 (R)]) (fun x=>[(0,v),(1,J a),(4,Fc fc),(12,J x),(13,J q)]) (fun x=>p≤x) p ?_ ?_
 ·exact Nat.le_refl _
 rintro x hF18
 try dsimp only at hF18
 refine have hx1:=hF18;q' 1 r' ?_
 refine cu1 (fun(b13_:Bool)=>m) (fun b13_=>[A5 (v) 200 (R)]) (fun b13_=>[(0,v),(1,J a),(4,Fc fc),(12,J x),(13,J q),(120,.bool (b13_))]) (fun b13_=>(b13_=true→x≤q)) ?_ ?_
 ·refine B4 16 [] []<|U' 2 r'<|C' r' r' (X.leq r' r') (fun h19=>?_) fun h19=>?_
  ·refine U' 4 r'<|Y' r' r' (B0 0 x)<|Y' r' r' (E4 0 (x) r' r' r')<|U' 2 r'<|Y' r' r' (B0 0 a)<|Y' r' r' (E4 0 (a) r' r' r') ?_
   obtain⟨z20,hz21⟩:=hC.2 _ (gt R x) (gt R a) (GoodL.at_ (by first|exact hG|exact hG.perm (by assumption)) (by first|omega|(simp;omega))).any (GoodL.at_ (by first|exact hG|exact hG.perm (by assumption)) (by first|omega|(simp;omega))).any
   refine Y' r' r' (D6 hC.1 rfl rfl hz21)<|C' r' r' (X.lss r' r') (fun h22=>?_) fun h22=>?_
   ·exact U' 1 r'<|V' 1 r'<|I9 true<|fun h_=>by first|(cases h_;done)|omega
   exact U' 1 r'<|V' 1 r'<|I9 false<|fun h_=>by first|(cases h_;done)|omega
  exact U' 13 r'<|V' 1 r'<|I9 false<|fun h_=>by first|(cases h_;done)|omega
 rintro b13_ hF23
 try dsimp only at hF23
 have hyes13_:=hF23
 refine K8 rfl (fun h24=>?_) (fun h24=>?_)
 ·refine q' 3 r' ?_
  have hy13_:=hyes13_ (by assumption)
  exact q' 7 r'<|G5 (x+1)<|by omega
 refine q' 7 r' ?_
 refine I0 (fun(y:Nat)=>y) (fun y=>[A5 (v) 200 (R)]) (fun y=>[(0,v),(1,J a),(4,Fc fc),(12,J x),(13,J y)]) (fun y=>a≤y∧y≤q) q ?_ ?_
 ·exact⟨by omega,by omega⟩
 rintro y ⟨hy1,hy2⟩
 refine q' 1 r' ?_
 refine cu1 (fun(b15_:Bool)=>m) (fun b15_=>[A5 (v) 200 (R)]) (fun b15_=>[(0,v),(1,J a),(4,Fc fc),(12,J x),(13,J y),(139,.bool (b15_))]) (fun b15_=>(b15_=true→x≤y)) ?_ ?_
 ·refine B4 17 [] []<|U' 2 r'<|C' r' r' (X.leq r' r') (fun h26=>?_) fun h26=>?_
  ·refine U' 4 r'<|Y' r' r' (B0 0 y)<|Y' r' r' (E4 0 (y) r' r' r')<|U' 2 r'<|Y' r' r' (B0 0 a)<|Y' r' r' (E4 0 (a) r' r' r') ?_
   obtain⟨z27,hz28⟩:=hC.2 _ (gt R y) (gt R a) (GoodL.at_ (by first|exact hG|exact hG.perm (by assumption)) (by first|omega|(simp;omega))).any (GoodL.at_ (by first|exact hG|exact hG.perm (by assumption)) (by first|omega|(simp;omega))).any
   refine Y' r' r' (D6 hC.1 rfl rfl hz28)<|C' r' r' (X.lss r' r') (fun h29=>?_) fun h29=>?_
   ·exact U' 2 r'<|V' 1 r'<|I9 false<|fun h_=>by first|(cases h_;done)|omega
   exact U' 2 r'<|V' 1 r'<|I9 true<|fun h_=>by first|(cases h_;done)|omega
  exact U' 14 r'<|V' 1 r'<|I9 false<|fun h_=>by first|(cases h_;done)|omega
 rintro b15_ hF30
 try dsimp only at hF30
 have hyes15_:=hF30
 refine K8 rfl (fun h31=>?_) (fun h31=>?_)
 ·refine q' 3 r' ?_
  have hy15_:=hyes15_ (by assumption)
  refine q' 7 r' ?_
  obtain⟨y1_,hy1_⟩:∃qq__:Nat,(↑y-1:Int)=(qq__:Int):=⟨(↑y-1:Int).toNat,(by omega)⟩
  rw[hy1_]
  exact G5 y1_<|⟨by omega,by omega⟩
 refine q' 10 r'<|c' (X.gtr r' r') (fun h32=>?_) fun h32=>?_
 ·exact v' 10 r'<|B4 16 [13,15] [13,15]<|U' 6 r'<|Y' r' r' (B0 0 a)<|Y' r' r' (E4 0 (a) r' r' r')<|U' 2 r'<|Y' r' r' (B0 0 y)<|Y' r' r' (E4 0 (y) r' r' r')<|Y' r' r' (B0 0 y)<|B3 r' r' r' r' (D4 (k:=0) (i:=y) (a:=gt R a) sizeOf200 rfl rfl rfl rfl (by first|omega|(simp;omega)|simp))<|Y' r' r' (B0 0 a)<|B3 r' r' r' r' (D4 (k:=0) (i:=a) (a:=gt R y) sizeOf200 rfl rfl rfl rfl (by first|omega|(simp;omega)|simp))<|V' 9 r'<|B6 r' r' r'<|G0<|⟨_,_,rfl,_,rfl,G6 hP (by omega) (by omega),by omega⟩
 refine v' 6 r'<|B4 16 [13,15] [13,15]<|U' 6 r'<|Y' r' r' (B0 0 y)<|Y' r' r' (E4 0 (y) r' r' r')<|U' 2 r'<|Y' r' r' (B0 0 x)<|Y' r' r' (E4 0 (x) r' r' r')<|Y' r' r' (B0 0 x)<|B3 r' r' r' r' (D4 (k:=0) (i:=x) (a:=gt R y) sizeOf200 rfl rfl rfl rfl (by first|omega|(simp;omega)|simp))<|Y' r' r' (B0 0 y)<|B3 r' r' r' r' (D4 (k:=0) (i:=y) (a:=gt R x) sizeOf200 rfl rfl rfl rfl (by first|omega|(simp;omega)|simp))<|V' 15 r' ?_
 obtain⟨q1_,hq1_⟩:∃qq__:Nat,(↑y-1:Int)=(qq__:Int):=⟨(↑y-1:Int).toNat,(by omega)⟩
 rw[hq1_]
 exact X1 (x+1) q1_ ((R.set x (gt R y)).set y (gt R x))<|⟨by omega,by omega,by omega,G6 hP (by omega) (by omega)⟩
theorem C1K(m:Mem)(hL:L.length≤1000000)(hG:GoodL Q m L)(hC:A2h fc){pv:Nat}{zpv:Int}(hza:za=a)(hzb:zb=b)(hzpv:zpv=pv)(hap:a≤pv)(hpb:pv<b)(hbl:b≤L.length):Mut prog 320 #[v,J za,J zb,J zpv,Fc fc] m [A5 v 200 L] (fun _ Es u=>∃p:Nat,u=J p∧∃R,Es=[A5 v 200 R]∧R.Perm L∧(a<p∧p≤b)):=by
 subst hza
 subst hzb
 subst hzpv
 refine G3 func320 r' ntmps320 fun wld=>q' 6 r'<|B4 16 [13,15] [13,15]<|U' 6 r'<|Y' r' r' (B0 0 pv)<|Y' r' r' (E4 0 (pv) r' r' r')<|U' 2 r'<|Y' r' r' (B0 0 a)<|Y' r' r' (E4 0 (a) r' r' r')<|Y' r' r' (B0 0 a)<|B3 r' r' r' r' (D4 (k:=0) (i:=a) (a:=gt L pv) sizeOf200 rfl rfl rfl rfl (by first|omega|(simp;omega)|simp))<|Y' r' r' (B0 0 pv)<|B3 r' r' r' r' (D4 (k:=0) (i:=pv) (a:=gt L a) sizeOf200 rfl rfl rfl rfl (by first|omega|(simp;omega)|simp))<|V' 2 r' ?_
 obtain⟨R1,hR1⟩:∃qq__:List O2,qq__=(L.set a (gt L pv)).set pv (gt L a):=⟨_,rfl⟩
 have hP1:R1.Perm L:=(by rw[hR1];exact G6 (.refl _) (by omega) (by omega))
 have he1:((L.set a (gt L pv)).set pv (gt L a))=R1:=hR1.symm
 rw[he1]
 refine have hPl1:=hP1.length_eq;q' 11 r' ?_
 obtain⟨j0_,hj0_⟩:∃qq__:Nat,(↑b-1:Int)=(qq__:Int):=⟨(↑b-1:Int).toNat,(by omega)⟩
 rw[hj0_]
 refine lq3 (fun(p:Nat) (q:Nat) (R:List O2)=>q+1-p) (fun p q R=>[A5 (v) 200 (R)]) (fun p q R=>[(0,v),(1,J a),(4,Fc fc),(11,J p),(12,J q)]) (fun p q R=>a+1≤p∧p≤b∧a≤q∧q<b∧R.Perm L) (a+1) j0_ R1 ?_ ?_
 ·exact⟨by omega,by omega,by omega,by omega,hP1⟩
 rintro p q R ⟨hp,hpb_,hq1,hq2,hP⟩
 refine have hPl:=hP.length_eq;q' 3 r' ?_
 refine I0 (fun(x:Nat)=>q+1-x) (fun x=>[A5 (v) 200 (R)]) (fun x=>[(0,v),(1,J a),(4,Fc fc),(11,J x),(12,J q)]) (fun x=>p≤x∧x≤b) p ?_ ?_
 ·exact⟨Nat.le_refl _,by omega⟩
 rintro x ⟨hx1,hx2⟩
 refine q' 1 r' ?_
 refine cu1 (fun(b3_:Bool)=>m) (fun b3_=>[A5 (v) 200 (R)]) (fun b3_=>[(0,v),(1,J a),(4,Fc fc),(11,J x),(12,J q),(47,.bool (b3_))]) (fun b3_=>(b3_=true→x≤q)) ?_ ?_
 ·refine B4 17 [] []<|U' 2 r'<|C' r' r' (X.leq r' r') (fun h4=>?_) fun h4=>?_
  ·refine U' 4 r'<|Y' r' r' (B0 0 a)<|Y' r' r' (E4 0 (a) r' r' r')<|U' 2 r'<|Y' r' r' (B0 0 x)<|Y' r' r' (E4 0 (x) r' r' r') ?_
   obtain⟨z5,hz6⟩:=hC.2 _ (gt R a) (gt R x) (GoodL.at_ (by first|exact hG|exact hG.perm (by assumption)) (by first|omega|(simp;omega))).any (GoodL.at_ (by first|exact hG|exact hG.perm (by assumption)) (by first|omega|(simp;omega))).any
   refine Y' r' r' (D6 hC.1 rfl rfl hz6)<|C' r' r' (X.lss r' r') (fun h7=>?_) fun h7=>?_
   ·exact U' 2 r'<|V' 1 r'<|I9 false<|fun h_=>by first|(cases h_;done)|omega
   exact U' 2 r'<|V' 1 r'<|I9 true<|fun h_=>by first|(cases h_;done)|omega
  exact U' 14 r'<|V' 1 r'<|I9 false<|fun h_=>by first|(cases h_;done)|omega
 rintro b3_ hF8
 try dsimp only at hF8
 have hyes3_:=hF8
 refine K8 rfl (fun h9=>?_) (fun h9=>?_)
 ·refine q' 3 r' ?_
  have hy3_:=hyes3_ (by assumption)
  exact q' 7 r'<|G5 (x+1)<|⟨by omega,by omega⟩
 refine q' 7 r' ?_
 refine I0 (fun(y:Nat)=>y) (fun y=>[A5 (v) 200 (R)]) (fun y=>[(0,v),(1,J a),(4,Fc fc),(11,J x),(12,J y)]) (fun y=>a≤y∧y≤q) q ?_ ?_
 ·exact⟨by omega,by omega⟩
 rintro y ⟨hy1,hy2⟩
 refine q' 1 r' ?_
 refine cu1 (fun(b5_:Bool)=>m) (fun b5_=>[A5 (v) 200 (R)]) (fun b5_=>[(0,v),(1,J a),(4,Fc fc),(11,J x),(12,J y),(65,.bool (b5_))]) (fun b5_=>(b5_=true→x≤y)) ?_ ?_
 ·refine B4 16 [] []<|U' 2 r'<|C' r' r' (X.leq r' r') (fun h11=>?_) fun h11=>?_
  ·refine U' 4 r'<|Y' r' r' (B0 0 a)<|Y' r' r' (E4 0 (a) r' r' r')<|U' 2 r'<|Y' r' r' (B0 0 y)<|Y' r' r' (E4 0 (y) r' r' r') ?_
   obtain⟨z12,hz13⟩:=hC.2 _ (gt R a) (gt R y) (GoodL.at_ (by first|exact hG|exact hG.perm (by assumption)) (by first|omega|(simp;omega))).any (GoodL.at_ (by first|exact hG|exact hG.perm (by assumption)) (by first|omega|(simp;omega))).any
   refine Y' r' r' (D6 hC.1 rfl rfl hz13)<|C' r' r' (X.lss r' r') (fun h14=>?_) fun h14=>?_
   ·exact U' 1 r'<|V' 1 r'<|I9 true<|fun h_=>by first|(cases h_;done)|omega
   exact U' 1 r'<|V' 1 r'<|I9 false<|fun h_=>by first|(cases h_;done)|omega
  exact U' 13 r'<|V' 1 r'<|I9 false<|fun h_=>by first|(cases h_;done)|omega
 rintro b5_ hF15
 try dsimp only at hF15
 have hyes5_:=hF15
 refine K8 rfl (fun h16=>?_) (fun h16=>?_)
 ·refine q' 3 r' ?_
  have hy5_:=hyes5_ (by assumption)
  refine q' 7 r' ?_
  obtain⟨y1_,hy1_⟩:∃qq__:Nat,(↑y-1:Int)=(qq__:Int):=⟨(↑y-1:Int).toNat,(by omega)⟩
  rw[hy1_]
  exact G5 y1_<|⟨by omega,by omega⟩
 refine q' 10 r'<|c' (X.gtr r' r') (fun h17=>?_) fun h17=>?_
 ·exact v' 16 r'<|A0 r' r'<|G0<|⟨_,rfl,_,rfl,hP,(by omega)⟩
 refine v' 6 r'<|B4 16 [13,15] [13,15]<|U' 6 r'<|Y' r' r' (B0 0 y)<|Y' r' r' (E4 0 (y) r' r' r')<|U' 2 r'<|Y' r' r' (B0 0 x)<|Y' r' r' (E4 0 (x) r' r' r')<|Y' r' r' (B0 0 x)<|B3 r' r' r' r' (D4 (k:=0) (i:=x) (a:=gt R y) sizeOf200 rfl rfl rfl rfl (by first|omega|(simp;omega)|simp))<|Y' r' r' (B0 0 y)<|B3 r' r' r' r' (D4 (k:=0) (i:=y) (a:=gt R x) sizeOf200 rfl rfl rfl rfl (by first|omega|(simp;omega)|simp))<|V' 15 r' ?_
 obtain⟨q1_,hq1_⟩:∃qq__:Nat,(↑y-1:Int)=(qq__:Int):=⟨(↑y-1:Int).toNat,(by omega)⟩
 rw[hq1_]
 exact X1 (x+1) q1_ ((R.set x (gt R y)).set y (gt R x))<|⟨by omega,by omega,by omega,by omega,G6 hP (by omega) (by omega)⟩
theorem B0C(m:Mem)(hL:L.length≤1000000)(hG:GoodL Q m L)(hC:A2h fc)(hsw:0≤sw∧sw≤1000)(hza:za=a)(hzb:zb=b)(ha:a<L.length)(hb:b<L.length):Mut prog 334 #[v,J za,J zb,Pt b0 0,Fc fc] m [A5 v 200 L,blk b0 3 [J sw]] (fun _ Es u=>∃(x y:Nat) (s':Int),u= .tuple #[J (x:Nat),J (y:Nat)]∧Es=[A5 v 200 L,blk b0 3 [J s']]∧((x=a∧y=b)∨(x=b∧y=a))∧sw≤s'∧s'≤sw+1):=by
 subst hza
 subst hzb
 refine G3 func334 r' ntmps334 fun wld=>q' 8 r'<|B4 11 [] []<|U' 3 r'<|Y' r' r' (B0 0 b)<|Y' r' r' (E4 0 (b) r' r' r')<|U' 2 r'<|Y' r' r' (B0 0 a)<|Y' r' r' (E4 0 (a) r' r' r') ?_
 obtain⟨z1,hz2⟩:=hC.2 _ (gt L b) (gt L a) (GoodL.at_ (by first|exact hG|exact hG.perm (by assumption)) (by first|omega|(simp;omega))).any (GoodL.at_ (by first|exact hG|exact hG.perm (by assumption)) (by first|omega|(simp;omega))).any
 refine Y' r' r' (D6 hC.1 rfl rfl hz2)<|C' r' r' (X.lss r' r') (fun h3=>?_) fun h3=>?_
 ·exact V' 6 r'<|b' 1 r' r' r'<|v' 2 r'<|I2 (T.storeB (k:=1) sizeOf3 rfl rfl rfl rfl (Nat.le_of_ble_eq_true rfl))<|v' 12 r'<|B6 r' r' r'<|G0<|⟨b,a,_,rfl,rfl,by omega,by omega,by omega⟩
 exact V' 13 r'<|B6 r' r' r'<|G0<|⟨a,b,_,rfl,rfl,by omega,by omega,by omega⟩
theorem A8D(m:Mem)(hL:L.length≤1000000)(hG:GoodL Q m L)(hC:A2h fc)(hsw:0≤sw∧sw≤990){c:Nat}{zc:Int}(hza:za=a)(hzb:zb=b)(hzc:zc=c)(ha:a<L.length)(hb:b<L.length)(hc:c<L.length):Mut prog 332 #[v,J za,J zb,J zc,Pt b0 0,Fc fc] m [A5 v 200 L,blk b0 3 [J sw]] (fun _ Es u=>∃(x:Nat) (s':Int),u=J (x:Nat)∧Es=[A5 v 200 L,blk b0 3 [J s']]∧(x=a∨x=b∨x=c)∧sw≤s'∧s'≤sw+3):=by
 subst hza
 subst hzb
 subst hzc
 refine G3 func332 r' ntmps332 fun wld=>q' 12 r' ?_
 refine C2 (C3 (A:=[]) call334 rfl (.refl _) (B0C _ (L:=L) (sw:=sw) (by omega) hG hC (by omega) (a:=a) (b:=b) (by omega) (by omega) (by omega) (by omega))) (by decide) (fun m1 Es_ u_ hle2 hR_=>?_)
 obtain⟨x3,x4,w5,rfl,rfl,hr6,hr7⟩:=hR_
 refine have hG:=hG.mono hle2;v' 14 r' ?_
 refine C2 (C3 (A:=[]) call334 rfl (.refl _) (B0C _ (L:=L) (sw:=w5) (by omega) hG hC (by omega) (a:=x4) (b:=c) (by omega) (by omega) (by omega) (by omega))) (by decide) (fun m8 Es_ u_ hle9 hR_=>?_)
 obtain⟨x10,x11,w12,rfl,rfl,hr13,hr14⟩:=hR_
 refine have hG:=hG.mono hle9;v' 14 r' ?_
 refine C2 (C3 (A:=[]) call334 rfl (.refl _) (B0C _ (L:=L) (sw:=w12) (by omega) hG hC (by omega) (a:=x3) (b:=x10) (by omega) (by omega) (by omega) (by omega))) (by decide) (fun m15 Es_ u_ hle16 hR_=>?_)
 obtain⟨x17,x18,w19,rfl,rfl,hr20,hr21⟩:=hR_
 exact v' 14 r'<|A0 r' r'<|G0<|⟨x18,_,rfl,rfl,by omega,by omega,by omega⟩
theorem A8P(m:Mem)(hL:L.length≤1000000)(hG:GoodL Q m L)(hC:A2h fc)(hsw:0≤sw∧sw≤980)(hza:za=a)(ha:1≤a)(hb:a+1<L.length):Mut prog 331 #[v,J za,Pt b0 0,Fc fc] m [A5 v 200 L,blk b0 3 [J sw]] (fun _ Es u=>∃(x:Nat) (s':Int),u=J (x:Nat)∧Es=[A5 v 200 L,blk b0 3 [J s']]∧(x=a-1∨x=a∨x=a+1)∧sw≤s'∧s'≤sw+3):=by
 subst hza
 refine G3 func331 r' ntmps331 fun wld=>q' 15 r' ?_
 refine C2 (C3 (A:=[]) call332 rfl (.refl _) (A8D _ (L:=L) (sw:=sw) (by omega) hG hC (by omega) (a:=a-1) (b:=a) (c:=a+1) (by omega) (by omega) (by omega) (by omega) (by omega) (by omega))) (by decide) (fun m1 Es_ u_ hle2 hR_=>?_)
 obtain⟨x3,w4,rfl,rfl,hr5,hr6⟩:=hR_
 exact v' 4 r'<|A0 r' r'<|G0<|⟨x3,_,rfl,rfl,by omega,by omega,by omega⟩
theorem C2e(m:Mem)(hL:L.length≤1000000)(hG:GoodL Q m L)(hC:A2h fc)(hza:za=a)(hzb:zb=b)(hab:a+12<b)(hbl:b≤L.length):Mut prog 317 #[v,J za,J zb,Fc fc] m [A5 v 200 L] (fun _ Es u=>∃p:Nat,∃h:Int,u= .tuple #[J p,J h]∧∃R,Es=[A5 v 200 R]∧R.Perm L∧(R=L∧a≤p∧p<b)):=by
 subst hza
 subst hzb
 refine G3 func317 r' ntmps317 fun wld=>q' 16 r'<|n' zeroValue3 r' fun b1=>v' 6 r'<|y' (X.quo rfl rfl (by omega) (by omega) (by omega))<|y' (X.mul rfl rfl (by omega) (by omega))<|v' 8 r'<|y' (X.quo rfl rfl (by omega) (by omega) (by omega))<|y' (X.mul rfl rfl (by omega) (by omega))<|v' 8 r'<|y' (X.quo rfl rfl (by omega) (by omega) (by omega))<|y' (X.mul rfl rfl (by omega) (by omega))<|v' 8 r'<|y' (A0i (X.geq rfl rfl) (by omega))<|v' 7 r'<|c' (X.geq r' r') (fun h2=>?_) fun h2=>?_
 ·refine v' 8 r' ?_
  refine C2 (I3 [1,0] call331 r' (A8P _ (L:=L) (sw:=0) (by omega) hG hC (by omega) (a:=(↑a+(((↑b-↑a)/4)*1):Int).toNat) (by omega) (by omega) (by omega))) (by decide) (fun m3 Es_ u_ hle4 hR_=>?_)
  obtain⟨x5,w6,rfl,rfl,hr7,hr8⟩:=hR_
  refine have hG:=hG.mono hle4;v' 8 r' ?_
  refine C2 (C3 (A:=[]) call331 rfl (.refl _) (A8P _ (L:=L) (sw:=w6) (by omega) hG hC (by omega) (a:=(↑a+(((↑b-↑a)/4)*2):Int).toNat) (by omega) (by omega) (by omega))) (by decide) (fun m9 Es_ u_ hle10 hR_=>?_)
  obtain⟨x11,w12,rfl,rfl,hr13,hr14⟩:=hR_
  refine have hG:=hG.mono hle10;v' 7 r' ?_
  refine C2 (C3 (A:=[]) call331 rfl (.refl _) (A8P _ (L:=L) (sw:=w12) (by omega) hG hC (by omega) (a:=(↑a+(((↑b-↑a)/4)*3):Int).toNat) (by omega) (by omega) (by omega))) (by decide) (fun m15 Es_ u_ hle16 hR_=>?_)
  obtain⟨x17,w18,rfl,rfl,hr19,hr20⟩:=hR_
  refine have hG:=hG.mono hle16;v' 9 r' ?_
  refine C2 (C3 (A:=[]) call332 rfl (.refl _) (A8D _ (L:=L) (sw:=w18) (by omega) hG hC (by omega) (a:=x5) (b:=x11) (c:=x17) (by omega) (by omega) (by omega) (by omega) (by omega) (by omega))) (by decide) (fun m21 Es_ u_ hle22 hR_=>?_)
  obtain⟨x23,w24,rfl,rfl,hr25,hr26⟩:=hR_
  refine have hG:=hG.mono hle22;v' 5 r'<|b' 1 r' r' r'<|v' 5 r'<|c' (X.eql r' r') (fun h27=>?_) fun h27=>?_
  ·refine v' 13 r' ?_
   refine B6 rfl rfl rfl (fun w' hw'=>B8 (hw'.weaken (.cons_cons _ (.cons _ .slnil))) ?_)
   exact⟨_,_,rfl,_,rfl,.refl _,rfl,by omega,by omega⟩
  refine v' 6 r'<|c' (X.eql r' r') (fun h28=>?_) fun h28=>?_
  ·refine v' 13 r' ?_
   refine B6 rfl rfl rfl (fun w' hw'=>B8 (hw'.weaken (.cons_cons _ (.cons _ .slnil))) ?_)
   exact⟨_,_,rfl,_,rfl,.refl _,rfl,by omega,by omega⟩
  refine v' 13 r' ?_
  refine B6 rfl rfl rfl (fun w' hw'=>B8 (hw'.weaken (.cons_cons _ (.cons _ .slnil))) ?_)
  exact⟨_,_,rfl,_,rfl,.refl _,rfl,by omega,by omega⟩
 refine v' 11 r' ?_
 refine C2 (I3 [1,0] call332 r' (A8D _ (L:=L) (sw:=0) (by omega) hG hC (by omega) (a:=(↑a+(((↑b-↑a)/4)*1):Int).toNat) (b:=(↑a+(((↑b-↑a)/4)*2):Int).toNat) (c:=(↑a+(((↑b-↑a)/4)*3):Int).toNat) (by omega) (by omega) (by omega) (by omega) (by omega) (by omega))) (by decide) (fun m29 Es_ u_ hle30 hR_=>?_)
 obtain⟨x31,w32,rfl,rfl,hr33,hr34⟩:=hR_
 refine v' 5 r'<|b' 1 r' r' r'<|v' 5 r'<|c' (X.eql r' r') (fun h35=>?_) fun h35=>?_
 ·refine v' 13 r' ?_
  refine B6 rfl rfl rfl (fun w' hw'=>B8 (hw'.weaken (.cons_cons _ (.cons _ .slnil))) ?_)
  exact⟨_,_,rfl,_,rfl,.refl _,rfl,by omega,by omega⟩
 refine v' 6 r'<|c' (X.eql r' r') (fun h36=>?_) fun h36=>?_
 ·refine v' 13 r' ?_
  refine B6 rfl rfl rfl (fun w' hw'=>B8 (hw'.weaken (.cons_cons _ (.cons _ .slnil))) ?_)
  exact⟨_,_,rfl,_,rfl,.refl _,rfl,by omega,by omega⟩
 refine v' 13 r' ?_
 refine B6 rfl rfl rfl (fun w' hw'=>B8 (hw'.weaken (.cons_cons _ (.cons _ .slnil))) ?_)
 exact⟨_,_,rfl,_,rfl,.refl _,rfl,by omega,by omega⟩
theorem B7Q(m:Mem)(hL:L.length≤1000000)(hG:GoodL Q m L)(hC:A2h fc)(hza:za=a)(hzb:zb=b)(hab:a+12<b)(hbl:b≤L.length):Mut prog 319 #[v,J za,J zb,Fc fc] m [A5 v 200 L] (fun _ Es u=>∃q:Bool,u= .bool q∧∃R,Es=[A5 v 200 R]∧R.Perm L∧True):=by
 subst hza
 subst hzb
 refine G3 func319 r' ntmps319 fun wld=>q' 19 r' ?_
 refine lq3 (fun(k:Nat) (i:Nat) (R:List O2)=>5-k) (fun k i R=>[A5 (v) 200 (R)]) (fun k i R=>[(0,v),(1,J a),(2,J b),(3,Fc fc),(9,J i),(10,J k)]) (fun k i R=>k≤5∧a+1≤i∧i≤b∧R.Perm L) 0 (a+1) L ?_ ?_
 ·exact⟨by omega,by omega,by omega,.refl _⟩
 rintro k i R ⟨hk,hi1,hi2,hP⟩
 refine have hPl:=hP.length_eq;q' 4 r'<|c' (X.lss r' r') (fun h2=>?_) fun h2=>?_
 ·refine v' 9 r' ?_
  refine I0 (fun(x:Nat)=>b-x) (fun x=>[A5 (v) 200 (R)]) (fun x=>[(0,v),(1,J a),(2,J b),(3,Fc fc),(9,J x),(10,J k)]) (fun x=>i≤x∧x≤b) i ?_ ?_
  ·exact⟨Nat.le_refl _,by omega⟩
  rintro x ⟨hx1,hx2⟩
  refine q' 1 r' ?_
  refine cu1 (fun(b5_:Bool)=>m) (fun b5_=>[A5 (v) 200 (R)]) (fun b5_=>[(0,v),(1,J a),(2,J b),(3,Fc fc),(9,J x),(10,J k),(36,.bool (b5_))]) (fun b5_=>(b5_=true→x<b)) ?_ ?_
  ·refine B4 18 [] []<|U' 2 r'<|C' r' r' (X.lss r' r') (fun h4=>?_) fun h4=>?_
   ·refine U' 4 r'<|Y' r' r' (B0 0 x)<|Y' r' r' (E4 0 (x) r' r' r')<|U' 3 r'<|Y' r' r' (B0 0 (x-1))<|Y' r' r' (E4 0 ((x-1)) r' r' r') ?_
    obtain⟨z5,hz6⟩:=hC.2 _ (gt R x) (gt R (x-1)) (GoodL.at_ (by first|exact hG|exact hG.perm (by assumption)) (by first|omega|(simp;omega))).any (GoodL.at_ (by first|exact hG|exact hG.perm (by assumption)) (by first|omega|(simp;omega))).any
    refine Y' r' r' (D6 hC.1 rfl rfl hz6)<|C' r' r' (X.lss r' r') (fun h7=>?_) fun h7=>?_
    ·exact U' 2 r'<|V' 1 r'<|I9 false<|fun h_=>by first|(cases h_;done)|omega
    exact U' 2 r'<|V' 1 r'<|I9 true<|fun h_=>by first|(cases h_;done)|omega
   exact U' 15 r'<|V' 1 r'<|I9 false<|fun h_=>by first|(cases h_;done)|omega
  rintro b5_ hF8
  try dsimp only at hF8
  have hyes5_:=hF8
  refine K8 rfl (fun h9=>?_) (fun h9=>?_)
  ·refine q' 3 r' ?_
   have hy5_:=hyes5_ (by assumption)
   exact q' 7 r'<|G5 (x+1)<|⟨by omega,by omega⟩
  refine q' 10 r'<|c' (X.eql r' r') (fun h10=>?_) fun h10=>?_
  ·exact v' 15 r'<|A0 r' r'<|G0<|⟨_,rfl,_,rfl,hP,trivial⟩
  refine v' 11 r'<|c' (X.lss r' r') (fun h11=>?_) fun h11=>?_
  ·exact v' 15 r'<|A0 r' r'<|G0<|⟨_,rfl,_,rfl,hP,trivial⟩
  refine v' 6 r'<|B4 18 [15,17] [15,17,100004]<|U' 4 r'<|H6 r' r' r' (fun _ _ hle_=>(X.sub rfl rfl (by omega) (by omega))) (by decide)<|U' 3 r'<|Y' r' r' (B0 0 (x-1))<|Y' r' r' (E4 0 ((x-1)) r' r' r')<|U' 2 r'<|Y' r' r' (B0 0 x)<|Y' r' r' (E4 0 (x) r' r' r')<|Y' r' r' (B0 0 x)<|B3 r' r' r' r' (D4 (k:=0) (i:=x) (a:=gt R (x-1)) sizeOf200 rfl rfl rfl rfl (by first|omega|(simp;omega)|simp))<|Y' r' r' (B0 0 (x-1))<|B3 r' r' r' r' (D4 (k:=0) (i:=(x-1)) (a:=gt R x) sizeOf200 rfl rfl rfl rfl (by first|omega|(simp;omega)|simp))<|V' 1 r' ?_
  refine cu1 (fun(R2:List O2)=>m) (fun R2=>[A5 (v) 200 (R2)]) (fun R2=>[(0,v),(1,J a),(2,J b),(3,Fc fc),(9,J x),(10,J k)]) (fun R2=>R2.Perm L) ?_ ?_
  ·refine q' 1 r' ?_
   obtain⟨R1,hR1⟩:∃qq__:List O2,qq__=(R.set x (gt R (x-1))).set (x-1) (gt R x):=⟨_,rfl⟩
   have hP1:R1.Perm L:=(by rw[hR1];exact G6 hP (by omega) (by omega))
   have he12:((R.set x (gt R (x-1))).set (x-1) (gt R x))=R1:=hR1.symm
   rw[he12]
   refine have hPl1:=hP1.length_eq;q' 4 r'<|c' (X.geq r' r') (fun h13=>?_) fun h13=>?_
   ·refine v' 11 r' ?_
    obtain⟨y0_,hy0_⟩:∃qq__:Nat,(↑x-1:Int)=(qq__:Int):=⟨(↑x-1:Int).toNat,(by omega)⟩
    rw[hy0_]
    refine O6 (fun(y:Nat) (R:List O2)=>y) (fun y R=>[A5 (v) 200 (R)]) (fun y R=>[(0,v),(1,J a),(2,J b),(3,Fc fc),(9,J x),(10,J k),(11,J y)]) (fun y R=>y≤y0_∧R.Perm L) y0_ R1 ?_ ?_
    ·exact⟨by omega,hP1⟩
    rintro y R ⟨hy,hP⟩
    refine have hPl:=hP.length_eq;q' 4 r'<|c' (X.geq r' r') (fun h15=>?_) fun h15=>?_
    ·refine v' 9 r'<|B4 13 [] []<|U' 3 r'<|Y' r' r' (B0 0 y)<|Y' r' r' (E4 0 (y) r' r' r')<|U' 3 r'<|Y' r' r' (B0 0 (y-1))<|Y' r' r' (E4 0 ((y-1)) r' r' r') ?_
     obtain⟨z16,hz17⟩:=hC.2 _ (gt R y) (gt R (y-1)) (GoodL.at_ (by first|exact hG|exact hG.perm (by assumption)) (by first|omega|(simp;omega))).any (GoodL.at_ (by first|exact hG|exact hG.perm (by assumption)) (by first|omega|(simp;omega))).any
     refine Y' r' r' (D6 hC.1 rfl rfl hz17)<|C' r' r' (X.lss r' r') (fun h18=>?_) fun h18=>?_
     ·refine U' 1 r'<|V' 4 r'<|B4 18 [15,17] [15,17,100004]<|U' 4 r'<|H6 r' r' r' (fun _ _ hle_=>(X.sub rfl rfl (by omega) (by omega))) (by decide)<|U' 3 r'<|Y' r' r' (B0 0 (y-1))<|Y' r' r' (E4 0 ((y-1)) r' r' r')<|U' 2 r'<|Y' r' r' (B0 0 y)<|Y' r' r' (E4 0 (y) r' r' r')<|Y' r' r' (B0 0 y)<|B3 r' r' r' r' (D4 (k:=0) (i:=y) (a:=gt R (y-1)) sizeOf200 rfl rfl rfl rfl (by first|omega|(simp;omega)|simp))<|Y' r' r' (B0 0 (y-1))<|B3 r' r' r' r' (D4 (k:=0) (i:=(y-1)) (a:=gt R y) sizeOf200 rfl rfl rfl rfl (by first|omega|(simp;omega)|simp))<|V' 8 r' ?_
      obtain⟨y1_,hy1_⟩:∃qq__:Nat,(↑y-1:Int)=(qq__:Int):=⟨(↑y-1:Int).toNat,(by omega)⟩
      rw[hy1_]
      exact J7 y1_ ((R.set y (gt R (y-1))).set (y-1) (gt R y))<|⟨by omega,G6 hP (by omega) (by omega)⟩
     exact U' 1 r'<|V' 9 r'<|I9 R<|hP
    exact v' 8 r'<|I9 R<|hP
   exact v' 5 r'<|I9 R1<|hP1
  rintro R2 hF19
  refine have hP2:=hF19;have hPl2:=hP2.length_eq;q' 5 r'<|c' (X.geq r' r') (fun h20=>?_) fun h20=>?_
  ·refine v' 11 r' ?_
   refine O6 (fun(z:Nat) (R:List O2)=>b-z) (fun z R=>[A5 (v) 200 (R)]) (fun z R=>[(0,v),(1,J a),(2,J b),(3,Fc fc),(9,J x),(10,J k),(12,J z)]) (fun z R=>x+1≤z∧R.Perm L) (x+1) R2 ?_ ?_
   ·exact⟨by omega,hP2⟩
   rintro z R ⟨hz,hP⟩
   refine have hPl:=hP.length_eq;q' 5 r'<|c' (X.lss r' r') (fun h22=>?_) fun h22=>?_
   ·refine v' 9 r'<|B4 13 [] []<|U' 3 r'<|Y' r' r' (B0 0 z)<|Y' r' r' (E4 0 (z) r' r' r')<|U' 3 r'<|Y' r' r' (B0 0 (z-1))<|Y' r' r' (E4 0 ((z-1)) r' r' r') ?_
    obtain⟨z23,hz24⟩:=hC.2 _ (gt R z) (gt R (z-1)) (GoodL.at_ (by first|exact hG|exact hG.perm (by assumption)) (by first|omega|(simp;omega))).any (GoodL.at_ (by first|exact hG|exact hG.perm (by assumption)) (by first|omega|(simp;omega))).any
    refine Y' r' r' (D6 hC.1 rfl rfl hz24)<|C' r' r' (X.lss r' r') (fun h25=>?_) fun h25=>?_
    ·exact U' 1 r'<|V' 4 r'<|B4 18 [15,17] [15,17,100004]<|U' 4 r'<|H6 r' r' r' (fun _ _ hle_=>(X.sub rfl rfl (by omega) (by omega))) (by decide)<|U' 3 r'<|Y' r' r' (B0 0 (z-1))<|Y' r' r' (E4 0 ((z-1)) r' r' r')<|U' 2 r'<|Y' r' r' (B0 0 z)<|Y' r' r' (E4 0 (z) r' r' r')<|Y' r' r' (B0 0 z)<|B3 r' r' r' r' (D4 (k:=0) (i:=z) (a:=gt R (z-1)) sizeOf200 rfl rfl rfl rfl (by first|omega|(simp;omega)|simp))<|Y' r' r' (B0 0 (z-1))<|B3 r' r' r' r' (D4 (k:=0) (i:=(z-1)) (a:=gt R z) sizeOf200 rfl rfl rfl rfl (by first|omega|(simp;omega)|simp))<|V' 8 r'<|J7 (z+1) ((R.set z (gt R (z-1))).set (z-1) (gt R z))<|⟨by omega,G6 hP (by omega) (by omega)⟩
    exact U' 1 r'<|V' 16 r'<|X1 (k+1) x R<|⟨by omega,by omega,by omega,hP⟩
   exact v' 15 r'<|X1 (k+1) x R<|⟨by omega,by omega,by omega,hP⟩
  exact v' 12 r'<|X1 (k+1) x R2<|⟨by omega,by omega,by omega,hP2⟩
 exact v' 14 r'<|A0 r' r'<|G0<|⟨_,rfl,_,rfl,hP,trivial⟩
theorem C3c(m:Mem)(hL:L.length≤1000000)(hG:GoodL Q m L)(hC:A2h fc)(hza:za=a)(hzb:zb=b)(hab:a+12<b)(hbl:b≤L.length):Mut prog 316 #[v,J za,J zb,Fc fc] m [A5 v 200 L] (fun _ Es u=>u= .tuple #[]∧∃R,Es=[A5 v 200 R]∧R.Perm L∧True):=by
 subst hza
 subst hzb
 refine G3 func316 r' ntmps316 fun wld=>q' 9 r' ?_
 obtain⟨ln_,hln_⟩:∃qq__:Nat,(↑b-↑a:Int)=(qq__:Int):=⟨(↑b-↑a:Int).toNat,(by omega)⟩
 rw[hln_]
 refine q' 2 r'<|y' (A0i (X.geq rfl rfl) (by omega))<|v' 6 r'<|y' (M0 runUnderlying3 runUnderlying439 rfl (Q1 (by omega) (by omega)))<|n' zeroValue439 r' fun b1=>I2 (T.storeB (k:=0) sizeOf439 rfl rfl rfl rfl (Nat.le_of_ble_eq_true rfl))<|v' 5 r' ?_
 refine D1 (T.call call306 rfl (B9G _ (z:=(↑ln_:Int)) (by omega))) (by decide) (fun m2 _ hle3 hR_=>?_)
 obtain⟨w4,rfl,hr5,hr6⟩:=hR_
 refine v' 7 r'<|y' (X.quo rfl rfl (by omega) (by omega) (by omega))<|y' (X.mul rfl rfl (by omega) (by omega))<|v' 6 r' ?_
 obtain⟨x0_,hx0_⟩:∃qq__:Nat,((↑a+((↑ln_/4)*2))-1:Int)=(qq__:Int):=⟨((↑a+((↑ln_/4)*2))-1:Int).toNat,(by omega)⟩
 rw[hx0_]
 refine lq3 (fun(x:Nat) (w:Int) (R:List O2)=>b+2-x) (fun x w R=>[blk b1 439 [.int .u64 (w)],A5 (v) 200 (R)]) (fun x w R=>[(0,v),(1,J a),(8,J ln_),(9,Pt b1 0),(10,.int .u64 (w4)),(11,J x)]) (fun x w R=>(a≤x∧(x:Int)≤a+(ln_:Int)/4*2+2)∧A2i w∧R.Perm L) x0_ (↑ln_) L ?_ ?_
 ·exact⟨by omega,by unfold A2i;omega,.refl _⟩
 rintro x w R ⟨hx,hw0_,hP⟩
 refine K6 (fun hgood0=>?_)
 refine have hPl:=hP.length_eq;q' 6 r'<|y' (X.quo rfl rfl (by omega) (by omega) (by omega))<|y' (X.mul rfl rfl (by omega) (by omega))<|v' 2 r'<|c' (X.leq r' r') (fun h8=>?_) fun h8=>?_
 ·refine v' 9 r' ?_
  refine C2 (C3 (A:=[A5 (v) 200 (R)]) call307 rfl (.refl _) (B5b _ (z:=w) hw0_)) (by decide) (fun m9 Es_ u_ hle10 hR_=>?_)
  obtain⟨w11,rfl,rfl,hr12⟩:=hR_
  refine v' 1 r'<|y' (B8m rfl rfl (by omega) (by omega))<|P5 (B9d rfl rfl (by unfold A2i;omega)) (by decide) fun w13 hr14=>y' (M0 runUnderlying358 runUnderlying3 rfl (M9 (by omega) (by omega)))<|v' 8 r'<|c' (X.geq r' r') (fun h15=>?_) fun h15=>?_
  ·refine v' 9 r' ?_
   obtain⟨o1_,ho1_⟩:∃qq__:Nat,(w13-↑ln_:Int)=(qq__:Int):=⟨(w13-↑ln_:Int).toNat,(by omega)⟩
   rw[ho1_]
   refine L9<|B4 20 [17,19] [17,19,100005]<|U' 5 r'<|H6 r' r' r' (fun _ _ hle_=>(X.add rfl rfl (by omega) (by omega))) (by decide)<|U' 4 r'<|Y' r' r' (B0 1 (a+o1_))<|Y' r' r' (E4 1 ((a+o1_)) r' r' r')<|U' 2 r'<|Y' r' r' (B0 1 x)<|Y' r' r' (E4 1 (x) r' r' r')<|Y' r' r' (B0 1 x)<|B3 r' r' r' r' (D4 (k:=1) (i:=x) (a:=gt R (a+o1_)) sizeOf200 rfl rfl rfl rfl (by first|omega|(simp;omega)|simp))<|Y' r' r' (B0 1 (a+o1_))<|B3 r' r' r' r' (D4 (k:=1) (i:=(a+o1_)) (a:=gt R x) sizeOf200 rfl rfl rfl rfl (by first|omega|(simp;omega)|simp))<|V' 8 r' ?_
   obtain⟨x1_,hx1_⟩:∃qq__:Nat,(↑x+1:Int)=(qq__:Int):=⟨(↑x+1:Int).toNat,(by omega)⟩
   rw[hx1_]
   exact E5 hgood0 hle10<|X1 x1_ w11 ((R.set x (gt R (a+o1_))).set (a+o1_) (gt R x))<|⟨by omega,hr12,G6 hP (by omega) (by omega)⟩
  refine v' 5 r' ?_
  obtain⟨o2_,ho2_⟩:∃qq__:Nat,(w13:Int)=(qq__:Int):=⟨(w13:Int).toNat,(by omega)⟩
  rw[ho2_]
  refine B4 20 [17,19] [17,19,100005]<|U' 5 r'<|H6 r' r' r' (fun _ _ hle_=>(X.add rfl rfl (by omega) (by omega))) (by decide)<|U' 4 r'<|Y' r' r' (B0 1 (a+o2_))<|Y' r' r' (E4 1 ((a+o2_)) r' r' r')<|U' 2 r'<|Y' r' r' (B0 1 x)<|Y' r' r' (E4 1 (x) r' r' r')<|Y' r' r' (B0 1 x)<|B3 r' r' r' r' (D4 (k:=1) (i:=x) (a:=gt R (a+o2_)) sizeOf200 rfl rfl rfl rfl (by first|omega|(simp;omega)|simp))<|Y' r' r' (B0 1 (a+o2_))<|B3 r' r' r' r' (D4 (k:=1) (i:=(a+o2_)) (a:=gt R x) sizeOf200 rfl rfl rfl rfl (by first|omega|(simp;omega)|simp))<|V' 8 r' ?_
  obtain⟨x1_,hx1_⟩:∃qq__:Nat,(↑x+1:Int)=(qq__:Int):=⟨(↑x+1:Int).toNat,(by omega)⟩
  rw[hx1_]
  exact E5 hgood0 hle10<|X1 x1_ w11 ((R.set x (gt R (a+o2_))).set (a+o2_) (gt R x))<|⟨by omega,hr12,G6 hP (by omega) (by omega)⟩
 refine v' 7 r' ?_
 refine D9 rfl (fun w' hw'=>B8 (hw'.weaken (.cons _ (.cons_cons _ .slnil))) ?_)
 exact⟨rfl,_,rfl,hP,trivial⟩
def B6x(k:Nat):Prop:=∀(m:Mem) {v:Value} {L:List O2} {a b:Nat} {ia ib il:Int} {fc:Nat} {Q:NoteT→Prop} (_:L.length≤1000000) (_:GoodL Q m L) (_:A2h fc) (_:ia=a) (_:ib=b) (_:b-a=k) (_:a≤b) (_:b≤L.length) (_:0≤il∧il≤1000),
 Mut prog 287 #[v,J ia,J ib,J il,Fc fc] m [A5 v 200 L] (fun _ Es u=>u= .tuple #[]∧∃R,Es=[A5 v 200 R]∧R.Perm L)
theorem B6t(k:Nat)(ih:∀q,q<k→B6x q):B6x k:=by
 intro m v L a b ia ib il fc Q hL hG hC hia hib hk hab hbl hil
 subst hia hib
 refine G3 func287 r' ntmps287 fun wld=>q' 11 r' ?_
 refine lp (G:=Nat×Nat×Int×Bool×Bool×List O2) (fun(x,y,l,wb,wp,R)=>y-x) (fun(x,y,l,wb,wp,R)=>m) (fun(x,y,l,wb,wp,R)=>[A5 (v) 200 (R)]) (fun(x,y,l,wb,wp,R)=>[(0,v),(1,J x),(2,J y),(3,J l),(4,Fc fc),(10,.bool (wb)),(11,.bool (wp))]) (fun(x,y,l,wb,wp,R)=>(a≤x∧x≤y∧y≤b)∧(0≤l∧l≤1000)∧R.Perm L) ((a,b,il,true,true,L)) ?_ ?_
 ·exact⟨by omega,by omega,.refl _⟩
 rintro⟨x,y,l,wb,wp,R⟩ hF1
 conv=>enter [7];dsimp only
 conv=>enter [8];dsimp only
 try dsimp only at hF1
 obtain⟨hxy,hl,hP⟩:=hF1
 refine K6 (fun hgood0=>?_)
 refine have hPl:=hP.length_eq;q' 13 r'<|c' (X.leq r' r') (fun h2=>?_) fun h2=>?_
 ·refine v' 9 r' ?_
  refine C2 (C3 (A:=[]) call314 rfl (.refl _) (C7f _ (L:=R) (by first|omega|(simp;omega)) (by first|exact hG|exact hG.perm (by assumption)|exact hG.perm (G6 hP (by omega) (by omega))) hC (a:=x) (b:=y) (by omega) (by omega) (by omega) (by omega))) (by decide) (fun m3 Es_ u_ hle4 hR_=>?_)
  obtain⟨rfl,R5,rfl,hR6,hB7⟩:=hR_
  replace hG:=hG.mono hle4
  replace hR6:R5.Perm L:=hR6.trans (by first|exact .refl _|assumption|exact G6 hP (by omega) (by omega))
  exact have hR6l:=hR6.length_eq;v' 7 r'<|F1 r'<|G0<|⟨rfl,_,rfl,by assumption⟩
 refine v' 9 r'<|c' (X.eql r' r') (fun h8=>?_) fun h8=>?_
 ·refine v' 9 r' ?_
  refine C2 (C3 (A:=[]) call315 rfl (.refl _) (C5g _ (L:=R) (by first|omega|(simp;omega)) (by first|exact hG|exact hG.perm (by assumption)|exact hG.perm (G6 hP (by omega) (by omega))) hC (a:=x) (b:=y) (by omega) (by omega) (by omega) (by omega))) (by decide) (fun m9 Es_ u_ hle10 hR_=>?_)
  obtain⟨rfl,R11,rfl,hR12,hB13⟩:=hR_
  replace hG:=hG.mono hle10
  replace hR12:R11.Perm L:=hR12.trans (by first|exact .refl _|assumption|exact G6 hP (by omega) (by omega))
  exact have hR12l:=hR12.length_eq;v' 7 r'<|F1 r'<|G0<|⟨rfl,_,rfl,by assumption⟩
 refine v' 5 r' ?_
 refine cu3 (fun(R8:List O2) (l8:Int) (mm8:Mem)=>mm8) (fun R8 l8 mm8=>[A5 (v) 200 (R8)]) (fun R8 l8 mm8=>[(0,v),(1,J x),(2,J y),(3,J l8),(4,Fc fc),(10,.bool (wb)),(11,.bool (wp)),(12,J (↑y-↑x))]) (fun R8 l8 mm8=>m.le mm8∧R8.Perm L∧0≤l8∧l8≤1000) ?_ ?_
 ·refine q' 3 r' ?_
  refine K2 (X.not rfl) (by decide) (fun h14=>?_) (fun h14=>?_)
  ·refine v' 9 r' ?_
   refine C2 (C3 (A:=[]) call316 rfl (.refl _) (C3c _ (L:=R) (by first|omega|(simp;omega)) (by first|exact hG|exact hG.perm (by assumption)|exact hG.perm (G6 hP (by omega) (by omega))) hC (a:=x) (b:=y) (by omega) (by omega) (by omega) (by omega))) (by decide) (fun m15 Es_ u_ hle16 hR_=>?_)
   obtain⟨rfl,R17,rfl,hR18,hB19⟩:=hR_
   replace hG:=hG.mono hle16
   replace hR18:R17.Perm L:=hR18.trans (by first|exact .refl _|assumption|exact G6 hP (by omega) (by omega))
   exact have hR18l:=hR18.length_eq;v' 8 r'<|mt3 R17 (l-1) m15<|⟨hle16,by assumption,by omega,by omega⟩
  exact v' 5 r'<|mt3 R l m<|⟨Mem.le_refl _,by assumption,by omega,by omega⟩
 rintro R8 l8 mm8 ⟨hmm8,hP8,hl80,hl81⟩
 refine have hG:=hG.mono hmm8;have hPl8:=hP8.length_eq;q' 6 r' ?_
 refine C2 (C3 (A:=[]) call317 rfl (.refl _) (C2e _ (L:=R8) (by first|omega|(simp;omega)) (by first|exact hG|exact hG.perm (by assumption)|exact hG.perm (G6 hP (by omega) (by omega))) hC (a:=x) (b:=y) (by omega) (by omega) (by omega) (by omega))) (by decide) (fun m21 Es_ u_ hle22 hR_=>?_)
 obtain⟨x26,x27,rfl,R23,rfl,hR24,hB25⟩:=hR_
 replace hG:=hG.mono hle22
 replace hR24:R23.Perm L:=hR24.trans (by first|exact .refl _|assumption|exact G6 hP (by omega) (by omega))
 refine have hR24l:=hR24.length_eq;v' 7 r' ?_
 refine cu (G:=List O2×Nat×Int×Mem) (fun(R12,p12,h12,mm12)=>mm12) (fun(R12,p12,h12,mm12)=>[A5 (v) 200 (R12)]) (fun(R12,p12,h12,mm12)=>[(0,v),(1,J x),(2,J y),(3,J l8),(4,Fc fc),(10,.bool (wb)),(11,.bool (wp)),(12,J (↑y-↑x)),(13,J p12),(14,J h12)]) (fun(R12,p12,h12,mm12)=>m21.le mm12∧R12.Perm L∧x≤p12∧p12<y) ?_ ?_
 ·refine q' 3 r'<|c' (X.eql r' r') (fun h28=>?_) fun h28=>?_
  ·refine v' 9 r' ?_
   refine C2 (C3 (A:=[]) call318 rfl (.refl _) (C7X _ (L:=R23) (by first|omega|(simp;omega)) (by first|exact hG|exact hG.perm (by assumption)|exact hG.perm (G6 hP (by omega) (by omega))) hC (a:=x) (b:=y) (by omega) (by omega) (by omega) (by omega))) (by decide) (fun m29 Es_ u_ hle30 hR_=>?_)
   obtain⟨rfl,R31,rfl,hR32,hB33⟩:=hR_
   replace hG:=hG.mono hle30
   replace hR32:R31.Perm L:=hR32.trans (by first|exact .refl _|assumption|exact G6 hP (by omega) (by omega))
   refine have hR32l:=hR32.length_eq;v' 12 r' ?_
   obtain⟨pv_,hpv_⟩:∃qq__:Nat,((↑y-1)-(↑x26-↑x):Int)=(qq__:Int):=⟨((↑y-1)-(↑x26-↑x):Int).toNat,(by omega)⟩
   rw[hpv_]
   exact L9<|q' 4 r'<|mt ((R31,pv_,1,m29))<|⟨hle30,by assumption,by omega,by omega⟩
  exact v' 5 r'<|mt ((R23,x26,x27,m21))<|⟨Mem.le_refl _,by assumption,by omega,by omega⟩
 rintro⟨R12,p12,h12,mm12⟩ hF34
 conv=>enter [7];dsimp only
 conv=>enter [8];dsimp only
 try dsimp only at hF34
 obtain⟨hmm12,hP12,hp120,hp121⟩:=hF34
 replace hG:=hG.mono hmm12
 have hPl12:=hP12.length_eq
 refine cu2 (fun(R16:List O2) (mm16:Mem)=>mm16) (fun R16 mm16=>[A5 (v) 200 (R16)]) (fun R16 mm16=>[(0,v),(1,J x),(2,J y),(3,J l8),(4,Fc fc),(10,.bool (wb)),(11,.bool (wp)),(12,J (↑y-↑x)),(13,J p12)]) (fun R16 mm16=>mm12.le mm16∧R16.Perm L) ?_ ?_
 ·refine q' 3 r' ?_
  refine K2 (X.move rfl) (by decide) (fun h35=>?_) (fun h35=>?_)
  ·refine v' 3 r' ?_
   refine K2 (X.move rfl) (by decide) (fun h36=>?_) (fun h36=>?_)
   ·refine v' 3 r'<|c' (X.eql r' r') (fun h37=>?_) fun h37=>?_
    ·refine v' 10 r' ?_
     refine C2 (C3 (A:=[]) call319 rfl (.refl _) (B7Q _ (L:=R12) (by first|omega|(simp;omega)) (by first|exact hG|exact hG.perm (by assumption)|exact hG.perm (G6 hP (by omega) (by omega))) hC (a:=x) (b:=y) (by omega) (by omega) (by omega) (by omega))) (by decide) (fun m38 Es_ u_ hle39 hR_=>?_)
     obtain⟨x43,rfl,R40,rfl,hR41,hB42⟩:=hR_
     replace hG:=hG.mono hle39
     replace hR41:R40.Perm L:=hR41.trans (by first|exact .refl _|assumption|exact G6 hP (by omega) (by omega))
     refine have hR41l:=hR41.length_eq;v' 2 r' ?_
     refine K8 rfl (fun h44=>?_) (fun h44=>?_)
     ·exact q' 5 r'<|F1 r'<|G0<|⟨rfl,_,rfl,by assumption⟩
     exact q' 2 r'<|mt2 R40 m38<|⟨hle39,by assumption⟩
    exact v' 6 r'<|mt2 R12 mm12<|⟨Mem.le_refl _,by assumption⟩
   exact v' 8 r'<|mt2 R12 mm12<|⟨Mem.le_refl _,by assumption⟩
  exact v' 11 r'<|mt2 R12 mm12<|⟨Mem.le_refl _,by assumption⟩
 rintro R16 mm16 ⟨hmm16,hP16⟩
 refine have hG:=hG.mono hmm16;have hPl16:=hP16.length_eq;q' 1 r' ?_
 refine cu1 (fun(b17_:Bool)=>mm16) (fun b17_=>[A5 (v) 200 (R16)]) (fun b17_=>[(0,v),(1,J x),(2,J y),(3,J l8),(4,Fc fc),(10,.bool (wb)),(11,.bool (wp)),(12,J (↑y-↑x)),(13,J p12),(97,.bool (b17_))]) (fun b17_=>(b17_=true→0<x)) ?_ ?_
 ·refine B4 17 [] []<|U' 1 r'<|C' r' r' (X.gtr r' r') (fun h46=>?_) fun h46=>?_
  ·refine U' 5 r'<|Y' r' r' (B0 0 (x-1))<|Y' r' r' (E4 0 ((x-1)) r' r' r')<|U' 2 r'<|Y' r' r' (B0 0 p12)<|Y' r' r' (E4 0 (p12) r' r' r') ?_
   obtain⟨z47,hz48⟩:=hC.2 _ (gt R16 (x-1)) (gt R16 p12) (GoodL.at_ (by first|exact hG|exact hG.perm (by assumption)) (by first|omega|(simp;omega))).any (GoodL.at_ (by first|exact hG|exact hG.perm (by assumption)) (by first|omega|(simp;omega))).any
   refine Y' r' r' (D6 hC.1 rfl rfl hz48)<|C' r' r' (X.lss r' r') (fun h49=>?_) fun h49=>?_
   ·exact U' 2 r'<|V' 1 r'<|I9 false<|fun h_=>by first|(cases h_;done)|omega
   exact U' 2 r'<|V' 1 r'<|I9 true<|fun h_=>by first|(cases h_;done)|omega
  exact U' 15 r'<|V' 1 r'<|I9 false<|fun h_=>by first|(cases h_;done)|omega
 rintro b17_ hF50
 try dsimp only at hF50
 have hyes17_:=hF50
 refine K8 rfl (fun h51=>?_) (fun h51=>?_)
 ·refine q' 7 r' ?_
  refine C2 (C3 (A:=[]) call320 rfl (.refl _) (C1K _ (L:=R16) (by first|omega|(simp;omega)) (by first|exact hG|exact hG.perm (by assumption)|exact hG.perm (G6 hP (by omega) (by omega))) hC (a:=x) (b:=y) (pv:=p12) (by omega) (by omega) (by omega) (by omega) (by omega) (by omega))) (by decide) (fun m52 Es_ u_ hle53 hR_=>?_)
  obtain⟨x57,rfl,R54,rfl,hR55,hB56⟩:=hR_
  replace hG:=hG.mono hle53
  replace hR55:R54.Perm L:=hR55.trans (by first|exact .refl _|assumption|exact G6 hP (by omega) (by omega))
  refine have hR55l:=hR55.length_eq;v' 13 r'<|E5 hgood0 (Mem.le_trans hmm8 (Mem.le_trans hle22 (Mem.le_trans hmm12 (Mem.le_trans hmm16 hle53)))) ?_
  refine nx ((x57,y,l8,wb,wp,R54)) ?_ ?_
  ·exact⟨by omega,by omega,by assumption⟩
  ((try dsimp only);omega)
 refine q' 9 r' ?_
 refine C2 (C3 (A:=[]) call321 rfl (.refl _) (C6v _ (L:=R16) (by first|omega|(simp;omega)) (by first|exact hG|exact hG.perm (by assumption)|exact hG.perm (G6 hP (by omega) (by omega))) hC (a:=x) (b:=y) (pv:=p12) (by omega) (by omega) (by omega) (by omega) (by omega) (by omega))) (by decide) (fun m58 Es_ u_ hle59 hR_=>?_)
 obtain⟨x63,x64,rfl,R60,rfl,hR61,hB62⟩:=hR_
 replace hG:=hG.mono hle59
 replace hR61:R60.Perm L:=hR61.trans (by first|exact .refl _|assumption|exact G6 hP (by omega) (by omega))
 refine have hR61l:=hR61.length_eq;v' 28 r'<|y' (X.quo rfl rfl (by omega) (by omega) (by omega))<|v' 7 r'<|c' (X.lss r' r') (fun h65=>?_) fun h65=>?_
 ·refine v' 7 r'<|c' (X.geq r' r') (fun h66=>?_) fun h66=>?_
  ·refine v' 10 r' ?_
   refine C2 (C3 (A:=[]) call287 rfl (.refl _) (ih (x63-x) (by omega) _ (L:=R60) (a:=x) (b:=x63) (by omega) (by first|exact hG|exact hG.perm (by assumption)) hC (by omega) (by omega) rfl (by omega) (by omega) (by omega))) (by decide) (fun m67 Es_ _ hle68 hR_=>?_)
   obtain⟨rfl,R69,rfl,hR70⟩:=hR_
   replace hG:=hG.mono hle68
   replace hR70:R69.Perm L:=hR70.trans (by first|assumption|exact .refl _)
   refine have hR70l:=hR70.length_eq;v' 9 r' ?_
   obtain⟨e1_,he1_⟩:∃qq__:Nat,(↑x63+1:Int)=(qq__:Int):=⟨(↑x63+1:Int).toNat,(by omega)⟩
   rw[he1_]
   refine E5 hgood0 (Mem.le_trans hmm8 (Mem.le_trans hle22 (Mem.le_trans hmm12 (Mem.le_trans hmm16 (Mem.le_trans hle59 hle68))))) ?_
   refine nx ((e1_,y,l8,true,x64,R69)) ?_ ?_
   ·exact⟨by omega,by omega,by assumption⟩
   ((try dsimp only);omega)
  refine v' 10 r' ?_
  refine C2 (C3 (A:=[]) call287 rfl (.refl _) (ih (x63-x) (by omega) _ (L:=R60) (a:=x) (b:=x63) (by omega) (by first|exact hG|exact hG.perm (by assumption)) hC (by omega) (by omega) rfl (by omega) (by omega) (by omega))) (by decide) (fun m71 Es_ _ hle72 hR_=>?_)
  obtain⟨rfl,R73,rfl,hR74⟩:=hR_
  replace hG:=hG.mono hle72
  replace hR74:R73.Perm L:=hR74.trans (by first|assumption|exact .refl _)
  refine have hR74l:=hR74.length_eq;v' 9 r' ?_
  obtain⟨e1_,he1_⟩:∃qq__:Nat,(↑x63+1:Int)=(qq__:Int):=⟨(↑x63+1:Int).toNat,(by omega)⟩
  rw[he1_]
  refine E5 hgood0 (Mem.le_trans hmm8 (Mem.le_trans hle22 (Mem.le_trans hmm12 (Mem.le_trans hmm16 (Mem.le_trans hle59 hle72))))) ?_
  refine nx ((e1_,y,l8,false,x64,R73)) ?_ ?_
  ·exact⟨by omega,by omega,by assumption⟩
  ((try dsimp only);omega)
 refine v' 7 r'<|c' (X.geq r' r') (fun h75=>?_) fun h75=>?_
 ·refine v' 11 r' ?_
  refine C2 (C3 (A:=[]) call287 rfl (.refl _) (ih (y-(x63+1)) (by omega) _ (L:=R60) (a:=(x63+1)) (b:=y) (by omega) (by first|exact hG|exact hG.perm (by assumption)) hC (by omega) (by omega) rfl (by omega) (by omega) (by omega))) (by decide) (fun m76 Es_ _ hle77 hR_=>?_)
  obtain⟨rfl,R78,rfl,hR79⟩:=hR_
  replace hG:=hG.mono hle77
  replace hR79:R78.Perm L:=hR79.trans (by first|assumption|exact .refl _)
  refine have hR79l:=hR79.length_eq;v' 8 r'<|E5 hgood0 (Mem.le_trans hmm8 (Mem.le_trans hle22 (Mem.le_trans hmm12 (Mem.le_trans hmm16 (Mem.le_trans hle59 hle77))))) ?_
  refine nx ((x,x63,l8,true,x64,R78)) ?_ ?_
  ·exact⟨by omega,by omega,by assumption⟩
  ((try dsimp only);omega)
 refine v' 11 r' ?_
 refine C2 (C3 (A:=[]) call287 rfl (.refl _) (ih (y-(x63+1)) (by omega) _ (L:=R60) (a:=(x63+1)) (b:=y) (by omega) (by first|exact hG|exact hG.perm (by assumption)) hC (by omega) (by omega) rfl (by omega) (by omega) (by omega))) (by decide) (fun m80 Es_ _ hle81 hR_=>?_)
 obtain⟨rfl,R82,rfl,hR83⟩:=hR_
 replace hR83:R82.Perm L:=hR83.trans (by first|assumption|exact .refl _)
 refine have hR83l:=hR83.length_eq;v' 8 r'<|E5 hgood0 (Mem.le_trans hmm8 (Mem.le_trans hle22 (Mem.le_trans hmm12 (Mem.le_trans hmm16 (Mem.le_trans hle59 hle81))))) ?_
 refine nx ((x,x63,l8,false,x64,R82)) ?_ ?_
 ·exact⟨by omega,by omega,by assumption⟩
 ((try dsimp only);omega)
theorem C5B(k:Nat):B6x k:=Nat.strongRecOn k fun n ih=>B6t n ih
theorem C6D(m:Mem)(hL:L.length≤1000000)(hG:GoodL Q m L)(hC:A2h fc):Mut prog 229 #[v,Fc fc] m [A5 v 200 L] (fun _ Es u=>u= .tuple #[]∧∃R,Es=[A5 v 200 R]∧R.Perm L):=by
 refine G3 func229 r' ntmps229 fun wld=>q' 3 r'<|y' (S5 (k:=0) runUnderlying52 rfl rfl)<|v' 7 r'<|y' (M0 runUnderlying3 runUnderlying358 rfl (Q1 (by omega) (by omega))) ?_
 refine D1 (T.call call225 rfl (B0H _ (z:=↑L.length) (by omega))) (by decide) (fun m1 _ hle2 hR_=>?_)
 obtain⟨x3,rfl,hr4,hr5⟩:=hR_
 refine have hG:=hG.mono hle2;v' 1 r' ?_
 refine C2 (C3 (A:=[]) call287 rfl (.refl _) (C5B _ _ (L:=L) (a:=0) (b:=L.length) (by omega) (by first|exact hG|exact hG.perm (by assumption)) hC (by omega) (by omega) rfl (by omega) (by omega) (by omega))) (by decide) (fun m6 Es_ _ hle7 hR_=>?_)
 obtain⟨rfl,R8,rfl,hR9⟩:=hR_
 replace hR9:R8.Perm L:=hR9.trans (by first|assumption|exact .refl _)
 exact have hR9l:=hR9.length_eq;v' 1 r'<|D9 r'<|G0<|⟨rfl,_,rfl,by assumption⟩
end Go.Proofs.S10
