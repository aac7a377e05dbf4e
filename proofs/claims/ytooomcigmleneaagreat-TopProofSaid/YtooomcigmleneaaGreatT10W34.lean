import Derived.Test.YtooomcigmleneaaGreatT10W31
set_option linter.all false
set_option maxHeartbeats 8000000
namespace Go.Proofs.S10
open Tryz Go Go.Kx Go.Proofs.T10
set_option maxRecDepth 20000
abbrev Q5:=BigV 38
variable{L:List Q5}{Q:NoteT→Prop}{a b b0 fc:Nat}{sw:Int}{v:Value}{za zb:Int}
instance:Flat Q5:=BigV.flat 38 (by decide)
def CQ(fc:Nat):Prop:=Enters prog fc∧∀(m:Mem) (a b:Q5),GoodB (fun _:NoteT=>True) m a→GoodB (fun _:NoteT=>True) m b→∃z:Int,Exact prog fc #[.agg a.cells.toArray,.agg b.cells.toArray] m (J z)
theorem B5Y(m:Mem)(hL:L.length≤1000000)(hG:GoodL Q m L)(hC:CQ fc)(hza:za=a)(hzb:zb=b)(hab:a≤b)(hbl:b≤L.length):Mut prog 314 #[v,J za,J zb,Fc fc] m [A5 v 200 L] (fun _ Es u=>u= .tuple #[]∧∃R,Es=[A5 v 200 R]∧R.Perm L∧True):=by
 subst hza
 subst hzb
 refine G3 func314 O ntmps314 fun o=>q' 8 O ?_
 refine S5 (fun(i:Nat) (R:List Q5)=>b-i) (fun i R=>[A5 (v) 200 (R)]) (fun i R=>[(0,v),(1,J a),(2,J b),(3,Fc fc),(8,J i)]) (fun i R=>a+1≤i∧R.Perm L) (a+1) L ?_ ?_
 ·exact⟨by omega,.refl _⟩
 rintro i R ⟨hi,c⟩
 refine have f:=c.length_eq;q' 5 O<|c' (X.lss O O) (fun p=>?_) fun p=>?_
 ·refine U 14 O ?_
  refine S5 (fun(j:Nat) (R:List Q5)=>j) (fun j R=>[A5 (v) 200 (R)]) (fun j R=>[(0,v),(1,J a),(2,J b),(3,Fc fc),(8,J i),(9,J j)]) (fun j R=>a≤j∧j≤i∧i<b∧R.Perm L) i R ?_ ?_
  ·exact⟨by omega,by omega,by omega,c⟩
  rintro j R ⟨s,t,w,c⟩
  refine have f:=c.length_eq;q' 2 O<|B9 17 [] []<|U' 2 O<|C' O O (X.gtr O O) (fun q=>?_) fun q=>?_
  ·refine U' 4 O<|Z O O (A9 0 j)<|Z O O (F4 0 (j) O O O)<|U' 3 O<|Z O O (A9 0 (j-1))<|Z O O (F4 0 ((j-1)) O O O) ?_
   obtain⟨x,g⟩:=hC.2 _ (gt R j) (gt R (j-1)) (GoodL.at_ (by first|exact hG|exact hG.perm ‹_›) (by first|omega|(simp;omega))).any (GoodL.at_ (by first|exact hG|exact hG.perm ‹_›) (by first|omega|(simp;omega))).any
   refine Z O O (E1 hC.1 rfl rfl g)<|C' O O (X.lss O O) (fun r=>?_) fun r=>?_
   ·refine U' 1 O<|V' 6 O<|B9 18 [15,17] [15,17,100004]<|U' 4 O<|J2 O O O (fun _ _ n=>(X.sub rfl rfl (by omega) (by omega))) (by decide)<|U' 3 O<|Z O O (A9 0 (j-1))<|Z O O (F4 0 ((j-1)) O O O)<|U' 2 O<|Z O O (A9 0 j)<|Z O O (F4 0 (j) O O O)<|Z O O (A9 0 j)<|B4 O O O O (E0 (k:=0) (i:=j) (a:=gt R (j-1)) sizeOf200 rfl rfl rfl rfl (by first|omega|(simp;omega)|simp))<|Z O O (A9 0 (j-1))<|B4 O O O O (E0 (k:=0) (i:=(j-1)) (a:=gt R j) sizeOf200 rfl rfl rfl rfl (by first|omega|(simp;omega)|simp))<|V' 8 O ?_
    obtain⟨l,d⟩:∃qq__:Nat,(↑j-1:Int)=(qq__:Int):=⟨(↑j-1:Int).toNat,(by omega)⟩
    rw[d]
    obtain rfl:l=j-1:=(by omega)
    exact K2 (j-1) ((R.set j (gt R (j-1))).set (j-1) (gt R j))<|⟨by omega,by omega,by omega,I1 c (by omega) (by omega)⟩
   exact U' 1 O<|V' 14 O<|K2 (i+1) R<|⟨by omega,c⟩
  exact U' 14 O<|V' 14 O<|K2 (i+1) R<|⟨by omega,c⟩
 exact U 7 O<|D0 O<|I2<|⟨rfl,_,rfl,c,trivial⟩
theorem B6A(m:Mem)(hL:L.length≤1000000)(hG:GoodL Q m L)(hC:CQ fc)(hza:za=a)(hzb:zb=b)(hab:a≤b)(hbl:b≤L.length):Mut prog 318 #[v,J za,J zb,Fc fc] m [A5 v 200 L] (fun _ Es u=>u= .tuple #[]∧∃R,Es=[A5 v 200 R]∧R.Perm L∧True):=by
 subst hza
 subst hzb
 refine G3 func318 O ntmps318 fun d=>q' 14 O ?_
 refine Di (fun(i:Int) (j:Int) (R:List Q5)=>(j-i).toNat) (fun i j R=>[A5 (v) 200 (R)]) (fun i j R=>[(0,v),(8,J i),(9,J j)]) (fun i j R=>(a:Int)≤i∧j<b∧R.Perm L) (↑a) (↑b-1) L ?_ ?_
 ·exact⟨by omega,by omega,.refl _⟩
 rintro i j R ⟨hi,l,c⟩
 refine have g:=c.length_eq;q' 5 O<|c' (X.lss O O) (fun f=>?_) fun f=>?_
 ·exact U 7 O<|B9 16 [13,15] [13,15]<|U' 6 O<|Z O O (P1 (k:=0) runUnderlying52 sizeOf200 rfl rfl rfl (by first|omega|(simp;omega)|simp) (by first|omega|(simp;omega)|simp))<|Z O O (F4 0 (((j:Int).toNat)) O O O)<|U' 2 O<|Z O O (P1 (k:=0) runUnderlying52 sizeOf200 rfl rfl rfl (by first|omega|(simp;omega)|simp) (by first|omega|(simp;omega)|simp))<|Z O O (F4 0 (((i:Int).toNat)) O O O)<|Z O O (P1 (k:=0) runUnderlying52 sizeOf200 rfl rfl rfl (by first|omega|(simp;omega)|simp) (by first|omega|(simp;omega)|simp))<|B4 O O O O (E0 (k:=0) (i:=((i:Int).toNat)) (a:=gt R ((j:Int).toNat)) sizeOf200 rfl rfl rfl rfl (by first|omega|(simp;omega)|simp))<|Z O O (P1 (k:=0) runUnderlying52 sizeOf200 rfl rfl rfl (by first|omega|(simp;omega)|simp) (by first|omega|(simp;omega)|simp))<|B4 O O O O (E0 (k:=0) (i:=((j:Int).toNat)) (a:=gt R ((i:Int).toNat)) sizeOf200 rfl rfl rfl rfl (by first|omega|(simp;omega)|simp))<|V' 15 O<|O7 (i+1) (j-1) ((R.set ((i:Int).toNat) (gt R ((j:Int).toNat))).set ((j:Int).toNat) (gt R ((i:Int).toNat)))<|⟨by omega,by omega,I1 c (by omega) (by omega)⟩
 exact U 7 O<|D0 O<|I2<|⟨rfl,_,rfl,c,trivial⟩
theorem A5W(m:Mem)(hL:L.length≤1000000)(hG:GoodL Q m L)(hC:CQ fc){lo hi fst:Nat}{zlo zhi zfst:Int}(hzlo:zlo=lo)(hzhi:zhi=hi)(hzfst:zfst=fst)(hlo:lo≤1000000)(hbl:fst+hi≤L.length):Mut prog 330 #[v,J zlo,J zhi,J zfst,Fc fc] m [A5 v 200 L] (fun _ Es u=>u= .tuple #[]∧∃R,Es=[A5 v 200 R]∧R.Perm L∧True):=by
 subst hzlo
 subst hzhi
 subst hzfst
 refine G3 func330 O ntmps330 fun s=>q' 7 O ?_
 refine S5 (fun(r:Nat) (R:List Q5)=>hi-r) (fun r R=>[A5 (v) 200 (R)]) (fun r R=>[(0,v),(2,J hi),(3,J fst),(4,Fc fc),(10,J r)]) (fun r R=>r≤1000000∧R.Perm L) lo L ?_ ?_
 ·exact⟨by omega,.refl _⟩
 rintro r R ⟨C,f⟩
 refine have z:=f.length_eq;q' 4 O<|y' (X.mul rfl rfl (by omega) (by omega))<|U 9 O<|c' (X.geq O O) (fun t=>?_) fun t=>?_
 ·exact U 8 O<|D0 O<|I2<|⟨rfl,_,rfl,f,trivial⟩
 refine U 7 O<|B9 22 [] []<|U' 3 O<|C' O O (X.lss O O) (fun w=>?_) fun w=>?_
 ·refine U' 6 O<|Z O O (A9 0 (fst+((2*r)+1)))<|Z O O (F4 0 ((fst+((2*r)+1))) O O O)<|U' 5 O<|Z O O (A9 0 ((fst+((2*r)+1))+1))<|Z O O (F4 0 (((fst+((2*r)+1))+1)) O O O) ?_
  obtain⟨D,p⟩:=hC.2 _ (gt R (fst+((2*r)+1))) (gt R ((fst+((2*r)+1))+1)) (GoodL.at_ (by first|exact hG|exact hG.perm ‹_›) (by first|omega|(simp;omega))).any (GoodL.at_ (by first|exact hG|exact hG.perm ‹_›) (by first|omega|(simp;omega))).any
  refine Z O O (E1 hC.1 rfl rfl p)<|C' O O (X.lss O O) (fun x=>?_) fun x=>?_
  ·refine U' 1 O<|V' 10 O<|B9 16 [] []<|U' 5 O<|Z O O (A9 0 (fst+r))<|Z O O (F4 0 ((fst+r)) O O O)<|U' 4 O<|Z O O (A9 0 (fst+(((2*r)+1)+1)))<|Z O O (F4 0 ((fst+(((2*r)+1)+1))) O O O) ?_
   obtain⟨E,q⟩:=hC.2 _ (gt R (fst+r)) (gt R (fst+(((2*r)+1)+1))) (GoodL.at_ (by first|exact hG|exact hG.perm ‹_›) (by first|omega|(simp;omega))).any (GoodL.at_ (by first|exact hG|exact hG.perm ‹_›) (by first|omega|(simp;omega))).any
   refine Z O O (E1 hC.1 rfl rfl q)<|C' O O (X.lss O O) (fun y=>?_) fun y=>?_
   ·refine U' 1 O<|V' 5 O<|B9 24 [21,23] [21,23,100007]<|U' 7 O<|J2 O O O (fun _ _ d=>(X.add rfl rfl (by omega) (by omega))) (by decide)<|U' 4 O<|Z O O (A9 0 (fst+(((2*r)+1)+1)))<|Z O O (F4 0 ((fst+(((2*r)+1)+1))) O O O)<|U' 4 O<|Z O O (A9 0 (fst+r))<|Z O O (F4 0 ((fst+r)) O O O)<|Z O O (A9 0 (fst+r))<|B4 O O O O (E0 (k:=0) (i:=(fst+r)) (a:=gt R (fst+(((2*r)+1)+1))) sizeOf200 rfl rfl rfl rfl (by first|omega|(simp;omega)|simp))<|Z O O (A9 0 (fst+(((2*r)+1)+1)))<|B4 O O O O (E0 (k:=0) (i:=(fst+(((2*r)+1)+1))) (a:=gt R (fst+r)) sizeOf200 rfl rfl rfl rfl (by first|omega|(simp;omega)|simp))<|V' 7 O ?_
    obtain⟨c,b⟩:∃qq__:Nat,(((2*↑r)+1)+1:Int)=(qq__:Int):=⟨(((2*↑r)+1)+1:Int).toNat,(by omega)⟩
    rw[b]
    obtain rfl:c=((2*r)+1)+1:=(by omega)
    exact K2 (((2*r)+1)+1) ((R.set (fst+r) (gt R (fst+(((2*r)+1)+1)))).set (fst+(((2*r)+1)+1)) (gt R (fst+r)))<|⟨by omega,I1 f (by omega) (by omega)⟩
   exact U' 1 O<|V' 7 O<|E9 O<|I2<|⟨rfl,_,rfl,f,trivial⟩
  refine U' 1 O<|V' 6 O<|B9 16 [] []<|U' 5 O<|Z O O (A9 0 (fst+r))<|Z O O (F4 0 ((fst+r)) O O O)<|U' 4 O<|Z O O (A9 0 (fst+((2*r)+1)))<|Z O O (F4 0 ((fst+((2*r)+1))) O O O) ?_
  obtain⟨A,g⟩:=hC.2 _ (gt R (fst+r)) (gt R (fst+((2*r)+1))) (GoodL.at_ (by first|exact hG|exact hG.perm ‹_›) (by first|omega|(simp;omega))).any (GoodL.at_ (by first|exact hG|exact hG.perm ‹_›) (by first|omega|(simp;omega))).any
  refine Z O O (E1 hC.1 rfl rfl g)<|C' O O (X.lss O O) (fun n=>?_) fun n=>?_
  ·refine U' 1 O<|V' 5 O<|B9 24 [21,23] [21,23,100007]<|U' 7 O<|J2 O O O (fun _ _ d=>(X.add rfl rfl (by omega) (by omega))) (by decide)<|U' 4 O<|Z O O (A9 0 (fst+((2*r)+1)))<|Z O O (F4 0 ((fst+((2*r)+1))) O O O)<|U' 4 O<|Z O O (A9 0 (fst+r))<|Z O O (F4 0 ((fst+r)) O O O)<|Z O O (A9 0 (fst+r))<|B4 O O O O (E0 (k:=0) (i:=(fst+r)) (a:=gt R (fst+((2*r)+1))) sizeOf200 rfl rfl rfl rfl (by first|omega|(simp;omega)|simp))<|Z O O (A9 0 (fst+((2*r)+1)))<|B4 O O O O (E0 (k:=0) (i:=(fst+((2*r)+1))) (a:=gt R (fst+r)) sizeOf200 rfl rfl rfl rfl (by first|omega|(simp;omega)|simp))<|V' 7 O ?_
   obtain⟨c,b⟩:∃qq__:Nat,((2*↑r)+1:Int)=(qq__:Int):=⟨((2*↑r)+1:Int).toNat,(by omega)⟩
   rw[b]
   obtain rfl:c=(2*r)+1:=(by omega)
   exact K2 ((2*r)+1) ((R.set (fst+r) (gt R (fst+((2*r)+1)))).set (fst+((2*r)+1)) (gt R (fst+r)))<|⟨by omega,I1 f (by omega) (by omega)⟩
  exact U' 1 O<|V' 7 O<|E9 O<|I2<|⟨rfl,_,rfl,f,trivial⟩
 refine U' 18 O<|V' 6 O<|B9 16 [] []<|U' 5 O<|Z O O (A9 0 (fst+r))<|Z O O (F4 0 ((fst+r)) O O O)<|U' 4 O<|Z O O (A9 0 (fst+((2*r)+1)))<|Z O O (F4 0 ((fst+((2*r)+1))) O O O) ?_
 obtain⟨B,l⟩:=hC.2 _ (gt R (fst+r)) (gt R (fst+((2*r)+1))) (GoodL.at_ (by first|exact hG|exact hG.perm ‹_›) (by first|omega|(simp;omega))).any (GoodL.at_ (by first|exact hG|exact hG.perm ‹_›) (by first|omega|(simp;omega))).any
 refine Z O O (E1 hC.1 rfl rfl l)<|C' O O (X.lss O O) (fun o=>?_) fun o=>?_
 ·refine U' 1 O<|V' 5 O<|B9 24 [21,23] [21,23,100007]<|U' 7 O<|J2 O O O (fun _ _ d=>(X.add rfl rfl (by omega) (by omega))) (by decide)<|U' 4 O<|Z O O (A9 0 (fst+((2*r)+1)))<|Z O O (F4 0 ((fst+((2*r)+1))) O O O)<|U' 4 O<|Z O O (A9 0 (fst+r))<|Z O O (F4 0 ((fst+r)) O O O)<|Z O O (A9 0 (fst+r))<|B4 O O O O (E0 (k:=0) (i:=(fst+r)) (a:=gt R (fst+((2*r)+1))) sizeOf200 rfl rfl rfl rfl (by first|omega|(simp;omega)|simp))<|Z O O (A9 0 (fst+((2*r)+1)))<|B4 O O O O (E0 (k:=0) (i:=(fst+((2*r)+1))) (a:=gt R (fst+r)) sizeOf200 rfl rfl rfl rfl (by first|omega|(simp;omega)|simp))<|V' 7 O ?_
  obtain⟨c,b⟩:∃qq__:Nat,((2*↑r)+1:Int)=(qq__:Int):=⟨((2*↑r)+1:Int).toNat,(by omega)⟩
  rw[b]
  obtain rfl:c=(2*r)+1:=(by omega)
  exact K2 ((2*r)+1) ((R.set (fst+r) (gt R (fst+((2*r)+1)))).set (fst+((2*r)+1)) (gt R (fst+r)))<|⟨by omega,I1 f (by omega) (by omega)⟩
 exact U' 1 O<|V' 7 O<|E9 O<|I2<|⟨rfl,_,rfl,f,trivial⟩
theorem B3p(m:Mem)(hL:L.length≤1000000)(hG:GoodL Q m L)(hC:CQ fc)(hza:za=a)(hzb:zb=b)(hab:a<b)(hbl:b≤L.length):Mut prog 315 #[v,J za,J zb,Fc fc] m [A5 v 200 L] (fun _ Es u=>u= .tuple #[]∧∃R,Es=[A5 v 200 R]∧R.Perm L∧True):=by
 subst hza
 subst hzb
 refine G3 func315 O ntmps315 fun D=>q' 24 O<|y' (X.quo rfl rfl (by omega) (by omega) (by omega))<|U 4 O ?_
 rw[show((↑b-↑a-1)/2:Int)=(((b-a-1)/2+1:Nat):Int)-1 by omega]
 refine S5 (fun(i:Nat) (R:List Q5)=>i) (fun i R=>[A5 (v) 200 (R)]) (fun i R=>[(0,v),(3,Fc fc),(8,J a),(9,J 0),(10,J (↑b-↑a)),(11,J (↑i-1))]) (fun i R=>i≤b+1∧R.Perm L) ((b-a-1)/2+1) L ?_ ?_
 ·exact⟨by omega,.refl _⟩
 rintro i R ⟨hi,d⟩
 refine N5 (fun f=>?_)
 refine have t:=d.length_eq;q' 4 O<|c' (X.geq O O) (fun E=>?_) fun E=>?_
 ·refine U 13 O ?_
  refine C5 (C8 (A:=[]) call330 rfl (.refl _) (A5W _ (L:=R) (by first|omega|(simp;omega)) (by first|exact hG|exact hG.perm ‹_›|exact hG.perm (I1 d (by omega) (by omega))) hC (lo:=i-1) (hi:=b-a) (fst:=a) (by omega) (by omega) (by omega) (by omega) (by omega))) (by decide) (fun K s F n o=>?_)
  obtain⟨rfl,R5,rfl,l,I⟩:=o
  replace hG:=hG.mono n
  replace l:R5.Perm L:=l.trans (by first|exact .refl _|assumption|exact I1 d (by omega) (by omega))
  refine have z:=l.length_eq;U 9 O ?_
  rw[show((↑i:Int)-1-1)=((i-1:Nat):Int)-1 by omega]
  exact G9 f n<|K2 (i-1) R5<|⟨by omega,l⟩
 refine U 16 O ?_
 rw[show(↑b-↑a-1:Int)=((b-a:Nat):Int)-1 by omega]
 refine S5 (fun(i:Nat) (R:List Q5)=>i) (fun i R=>[A5 (v) 200 (R)]) (fun i R=>[(0,v),(3,Fc fc),(8,J a),(9,J 0),(12,J (↑i-1))]) (fun i R=>i≤b-a∧R.Perm L) (b-a) R ?_ ?_
 ·exact⟨by omega,d⟩
 rintro i R ⟨hi,d⟩
 refine N5 (fun g=>?_)
 refine have t:=d.length_eq;q' 4 O<|c' (X.geq O O) (fun G=>?_) fun G=>?_
 ·refine U 8 O<|B9 20 [17,19] [17,19,100005]<|U' 5 O<|J2 O O O (fun _ _ y=>(X.add rfl rfl (by omega) (by omega))) (by decide)<|U' 4 O<|Z O O (A9 0 (a+(i-1)))<|Z O O (F4 0 (((a+(i-1)))) O O O)<|U' 2 O<|Z O O (A9 0 a)<|Z O O (F4 0 (a) O O O)<|Z O O (A9 0 a)<|B4 O O O O (E0 (k:=0) (i:=a) (a:=gt R ((a+(i-1)))) sizeOf200 rfl rfl rfl rfl (by first|omega|(simp;omega)|simp))<|Z O O (A9 0 (a+(i-1)))<|B4 O O O O (E0 (k:=0) (i:=((a+(i-1)))) (a:=gt R a) sizeOf200 rfl rfl rfl rfl (by first|omega|(simp;omega)|simp))<|V' 1 O ?_
  obtain⟨R1,r⟩:∃qq__:List Q5,qq__=(R.set a (gt R ((a+(i-1))))).set ((a+(i-1))) (gt R a):=⟨_,rfl⟩
  have w:R1.Perm L:=(by rw[r];exact I1 d (by omega) (by omega))
  have q:((R.set a (gt R ((a+(i-1))))).set ((a+(i-1))) (gt R a))=R1:=r.symm
  rw[q]
  refine have B:=w.length_eq;q' 6 O ?_
  refine C5 (C8 (A:=[]) call330 rfl (.refl _) (A5W _ (L:=R1) (by first|omega|(simp;omega)) (by first|exact hG|exact hG.perm ‹_›|exact hG.perm (I1 d (by omega) (by omega))) hC (lo:=0) (hi:=i-1) (fst:=a) (by omega) (by omega) (by omega) (by omega) (by omega))) (by decide) (fun H s F p o=>?_)
  obtain⟨rfl,R13,rfl,c,C⟩:=o
  replace c:R13.Perm L:=c.trans (by first|exact .refl _|assumption|exact I1 d (by omega) (by omega))
  refine have x:=c.length_eq;U 9 O ?_
  rw[show((↑i:Int)-1-1)=((i-1:Nat):Int)-1 by omega]
  exact G9 g p<|K2 (i-1) R13<|⟨by omega,c⟩
 exact U 7 O<|D0 O<|I2<|⟨rfl,_,rfl,d,trivial⟩
theorem B5n(m:Mem)(hL:L.length≤1000000)(hG:GoodL Q m L)(hC:CQ fc){pv:Nat}{zpv:Int}(hza:za=a)(hzb:zb=b)(hzpv:zpv=pv)(hap:a≤pv)(hpb:pv<b)(hbl:b≤L.length):Mut prog 321 #[v,J za,J zb,J zpv,Fc fc] m [A5 v 200 L] (fun _ Es u=>∃p:Nat,∃q:Bool,u= .tuple #[J p,.bool q]∧∃R,Es=[A5 v 200 R]∧R.Perm L∧(a≤p∧p<b)):=by
 subst hza
 subst hzb
 subst hzpv
 refine G3 func321 O ntmps321 fun b7=>q' 7 O<|B9 16 [13,15] [13,15]<|U' 6 O<|Z O O (A9 0 pv)<|Z O O (F4 0 (pv) O O O)<|U' 2 O<|Z O O (A9 0 a)<|Z O O (F4 0 (a) O O O)<|Z O O (A9 0 a)<|B4 O O O O (E0 (k:=0) (i:=a) (a:=gt L pv) sizeOf200 rfl rfl rfl rfl (by first|omega|(simp;omega)|simp))<|Z O O (A9 0 pv)<|B4 O O O O (E0 (k:=0) (i:=pv) (a:=gt L a) sizeOf200 rfl rfl rfl rfl (by first|omega|(simp;omega)|simp))<|V' 2 O ?_
 obtain⟨R1,D⟩:∃qq__:List Q5,qq__=(L.set a (gt L pv)).set pv (gt L a):=⟨_,rfl⟩
 have C:R1.Perm L:=(by rw[D];exact I1 (.refl _) (by omega) (by omega))
 have a6:((L.set a (gt L pv)).set pv (gt L a))=R1:=D.symm
 rw[a6]
 refine have b4:=C.length_eq;q' 11 O ?_
 obtain⟨g,E⟩:∃qq__:Nat,(↑b-1:Int)=(qq__:Int):=⟨(↑b-1:Int).toNat,(by omega)⟩
 rw[E]
 refine J4 (fun(i:Nat)=>g+1-i) (fun i=>[A5 (v) 200 (R1)]) (fun i=>[(0,v),(1,J a),(4,Fc fc),(12,J i),(13,J g)]) (fun i=>a+1≤i∧i≤g+1) (a+1) ?_ ?_
 ·exact⟨by omega,by omega⟩
 rintro i ⟨c0,c1⟩
 refine q' 1 O ?_
 refine Bm (fun(l:Bool)=>m) (fun l=>[A5 (v) 200 (R1)]) (fun l=>[(0,v),(1,J a),(4,Fc fc),(12,J i),(13,J g),(47,.bool (l))]) (fun l=>(l=true→i≤g)) ?_ ?_
 ·refine B9 16 [] []<|U' 2 O<|C' O O (X.leq O O) (fun h3=>?_) fun h3=>?_
  ·refine U' 4 O<|Z O O (A9 0 i)<|Z O O (F4 0 (i) O O O)<|U' 2 O<|Z O O (A9 0 a)<|Z O O (F4 0 (a) O O O) ?_
   obtain⟨z4,a9⟩:=hC.2 _ (gt R1 i) (gt R1 a) (GoodL.at_ (by first|exact hG|exact hG.perm ‹_›) (by first|omega|(simp;omega))).any (GoodL.at_ (by first|exact hG|exact hG.perm ‹_›) (by first|omega|(simp;omega))).any
   refine Z O O (E1 hC.1 rfl rfl a9)<|C' O O (X.lss O O) (fun h6=>?_) fun h6=>?_
   ·exact U' 1 O<|V' 1 O<|H5 true<|fun c=>by first|(cases c;done)|omega
   exact U' 1 O<|V' 1 O<|H5 false<|fun c=>by first|(cases c;done)|omega
  exact U' 13 O<|V' 1 O<|H5 false<|fun c=>by first|(cases c;done)|omega
 rintro l F
 try dsimp only at F
 have s:=F
 refine L1 rfl (fun h8=>?_) (fun h8=>?_)
 ·refine q' 3 O ?_
  have b5:=s ‹_›
  exact q' 7 O<|I6 (i+1)<|⟨by omega,by omega⟩
 refine q' 7 O ?_
 refine J4 (fun(j:Nat)=>j) (fun j=>[A5 (v) 200 (R1)]) (fun j=>[(0,v),(1,J a),(4,Fc fc),(12,J i),(13,J j)]) (fun j=>j≤g∧i≤j+1) g ?_ ?_
 ·exact⟨by omega,by omega⟩
 rintro j ⟨c2,c3⟩
 refine q' 1 O ?_
 refine Bm (fun(n:Bool)=>m) (fun n=>[A5 (v) 200 (R1)]) (fun n=>[(0,v),(1,J a),(4,Fc fc),(12,J i),(13,J j),(66,.bool (n))]) (fun n=>(n=true→i≤j)) ?_ ?_
 ·refine B9 17 [] []<|U' 2 O<|C' O O (X.leq O O) (fun S=>?_) fun S=>?_
  ·refine U' 4 O<|Z O O (A9 0 j)<|Z O O (F4 0 (j) O O O)<|U' 2 O<|Z O O (A9 0 a)<|Z O O (F4 0 (a) O O O) ?_
   obtain⟨c4,G⟩:=hC.2 _ (gt R1 j) (gt R1 a) (GoodL.at_ (by first|exact hG|exact hG.perm ‹_›) (by first|omega|(simp;omega))).any (GoodL.at_ (by first|exact hG|exact hG.perm ‹_›) (by first|omega|(simp;omega))).any
   refine Z O O (E1 hC.1 rfl rfl G)<|C' O O (X.lss O O) (fun T=>?_) fun T=>?_
   ·exact U' 2 O<|V' 1 O<|H5 false<|fun c=>by first|(cases c;done)|omega
   exact U' 2 O<|V' 1 O<|H5 true<|fun c=>by first|(cases c;done)|omega
  exact U' 14 O<|V' 1 O<|H5 false<|fun c=>by first|(cases c;done)|omega
 rintro n w
 try dsimp only at w
 have t:=w
 refine L1 rfl (fun V=>?_) (fun V=>?_)
 ·refine q' 3 O ?_
  have b6:=t ‹_›
  refine q' 7 O ?_
  obtain⟨b0,H⟩:∃qq__:Nat,(↑j-1:Int)=(qq__:Int):=⟨(↑j-1:Int).toNat,(by omega)⟩
  rw[H]
  exact I6 b0<|⟨by omega,by omega⟩
 refine q' 10 O<|c' (X.gtr O O) (fun W=>?_) fun W=>?_
 ·exact U 4 O<|B9 16 [13,15] [13,15]<|U' 6 O<|Z O O (A9 0 a)<|Z O O (F4 0 (a) O O O)<|U' 2 O<|Z O O (A9 0 j)<|Z O O (F4 0 (j) O O O)<|Z O O (A9 0 j)<|B4 O O O O (E0 (k:=0) (i:=j) (a:=gt R1 a) sizeOf200 rfl rfl rfl rfl (by first|omega|(simp;omega)|simp))<|Z O O (A9 0 a)<|B4 O O O O (E0 (k:=0) (i:=a) (a:=gt R1 j) sizeOf200 rfl rfl rfl rfl (by first|omega|(simp;omega)|simp))<|V' 10 O<|B7 O O O<|I2<|⟨_,_,rfl,_,rfl,I1 C (by omega) (by omega),by omega⟩
 refine U 6 O<|B9 16 [13,15] [13,15]<|U' 6 O<|Z O O (A9 0 j)<|Z O O (F4 0 (j) O O O)<|U' 2 O<|Z O O (A9 0 i)<|Z O O (F4 0 (i) O O O)<|Z O O (A9 0 i)<|B4 O O O O (E0 (k:=0) (i:=i) (a:=gt R1 j) sizeOf200 rfl rfl rfl rfl (by first|omega|(simp;omega)|simp))<|Z O O (A9 0 j)<|B4 O O O O (E0 (k:=0) (i:=j) (a:=gt R1 i) sizeOf200 rfl rfl rfl rfl (by first|omega|(simp;omega)|simp))<|V' 14 O ?_
 obtain⟨b1,I⟩:∃qq__:Nat,(↑j-1:Int)=(qq__:Int):=⟨(↑j-1:Int).toNat,(by omega)⟩
 rw[I]
 refine E2<|q' 2 O ?_
 refine Di (fun(p:Nat) (q:Nat) (R:List Q5)=>q+1-p) (fun p q R=>[A5 (v) 200 (R)]) (fun p q R=>[(0,v),(1,J a),(4,Fc fc),(12,J p),(13,J q)]) (fun p q R=>a+1≤p∧a≤q∧q<b∧R.Perm L) (i+1) b1 ((R1.set i (gt R1 j)).set j (gt R1 i)) ?_ ?_
 ·exact⟨by omega,by omega,by omega,I1 C (by omega) (by omega)⟩
 rintro p q R ⟨hp,c5,c6,hP⟩
 refine have b8:=hP.length_eq;q' 3 O ?_
 refine J4 (fun(x:Nat)=>q+1-x) (fun x=>[A5 (v) 200 (R)]) (fun x=>[(0,v),(1,J a),(4,Fc fc),(12,J x),(13,J q)]) (fun x=>p≤x) p ?_ ?_
 ·exact E' _
 rintro x z
 try dsimp only at z
 refine have b9:=z;q' 1 O ?_
 refine Bm (fun(d:Bool)=>m) (fun d=>[A5 (v) 200 (R)]) (fun d=>[(0,v),(1,J a),(4,Fc fc),(12,J x),(13,J q),(120,.bool (d))]) (fun d=>(d=true→x≤q)) ?_ ?_
 ·refine B9 16 [] []<|U' 2 O<|C' O O (X.leq O O) (fun Y=>?_) fun Y=>?_
  ·refine U' 4 O<|Z O O (A9 0 x)<|Z O O (F4 0 (x) O O O)<|U' 2 O<|Z O O (A9 0 a)<|Z O O (F4 0 (a) O O O) ?_
   obtain⟨c7,K⟩:=hC.2 _ (gt R x) (gt R a) (GoodL.at_ (by first|exact hG|exact hG.perm ‹_›) (by first|omega|(simp;omega))).any (GoodL.at_ (by first|exact hG|exact hG.perm ‹_›) (by first|omega|(simp;omega))).any
   refine Z O O (E1 hC.1 rfl rfl K)<|C' O O (X.lss O O) (fun a0=>?_) fun a0=>?_
   ·exact U' 1 O<|V' 1 O<|H5 true<|fun c=>by first|(cases c;done)|omega
   exact U' 1 O<|V' 1 O<|H5 false<|fun c=>by first|(cases c;done)|omega
  exact U' 13 O<|V' 1 O<|H5 false<|fun c=>by first|(cases c;done)|omega
 rintro d A
 try dsimp only at A
 have o:=A
 refine L1 rfl (fun a1=>?_) (fun a1=>?_)
 ·refine q' 3 O ?_
  have a7:=o ‹_›
  exact q' 7 O<|I6 (x+1)<|by omega
 refine q' 7 O ?_
 refine J4 (fun(y:Nat)=>y) (fun y=>[A5 (v) 200 (R)]) (fun y=>[(0,v),(1,J a),(4,Fc fc),(12,J x),(13,J y)]) (fun y=>a≤y∧y≤q) q ?_ ?_
 ·exact⟨by omega,by omega⟩
 rintro y ⟨c8,c9⟩
 refine q' 1 O ?_
 refine Bm (fun(f:Bool)=>m) (fun f=>[A5 (v) 200 (R)]) (fun f=>[(0,v),(1,J a),(4,Fc fc),(12,J x),(13,J y),(139,.bool (f))]) (fun f=>(f=true→x≤y)) ?_ ?_
 ·refine B9 17 [] []<|U' 2 O<|C' O O (X.leq O O) (fun a2=>?_) fun a2=>?_
  ·refine U' 4 O<|Z O O (A9 0 y)<|Z O O (F4 0 (y) O O O)<|U' 2 O<|Z O O (A9 0 a)<|Z O O (F4 0 (a) O O O) ?_
   obtain⟨d0,M⟩:=hC.2 _ (gt R y) (gt R a) (GoodL.at_ (by first|exact hG|exact hG.perm ‹_›) (by first|omega|(simp;omega))).any (GoodL.at_ (by first|exact hG|exact hG.perm ‹_›) (by first|omega|(simp;omega))).any
   refine Z O O (E1 hC.1 rfl rfl M)<|C' O O (X.lss O O) (fun a3=>?_) fun a3=>?_
   ·exact U' 2 O<|V' 1 O<|H5 false<|fun c=>by first|(cases c;done)|omega
   exact U' 2 O<|V' 1 O<|H5 true<|fun c=>by first|(cases c;done)|omega
  exact U' 14 O<|V' 1 O<|H5 false<|fun c=>by first|(cases c;done)|omega
 rintro f B
 try dsimp only at B
 have r:=B
 refine L1 rfl (fun a4=>?_) (fun a4=>?_)
 ·refine q' 3 O ?_
  have a8:=r ‹_›
  refine q' 7 O ?_
  obtain⟨b2,N⟩:∃qq__:Nat,(↑y-1:Int)=(qq__:Int):=⟨(↑y-1:Int).toNat,(by omega)⟩
  rw[N]
  exact I6 b2<|⟨by omega,by omega⟩
 refine q' 10 O<|c' (X.gtr O O) (fun a5=>?_) fun a5=>?_
 ·exact U 10 O<|B9 16 [13,15] [13,15]<|U' 6 O<|Z O O (A9 0 a)<|Z O O (F4 0 (a) O O O)<|U' 2 O<|Z O O (A9 0 y)<|Z O O (F4 0 (y) O O O)<|Z O O (A9 0 y)<|B4 O O O O (E0 (k:=0) (i:=y) (a:=gt R a) sizeOf200 rfl rfl rfl rfl (by first|omega|(simp;omega)|simp))<|Z O O (A9 0 a)<|B4 O O O O (E0 (k:=0) (i:=a) (a:=gt R y) sizeOf200 rfl rfl rfl rfl (by first|omega|(simp;omega)|simp))<|V' 9 O<|B7 O O O<|I2<|⟨_,_,rfl,_,rfl,I1 hP (by omega) (by omega),by omega⟩
 refine U 6 O<|B9 16 [13,15] [13,15]<|U' 6 O<|Z O O (A9 0 y)<|Z O O (F4 0 (y) O O O)<|U' 2 O<|Z O O (A9 0 x)<|Z O O (F4 0 (x) O O O)<|Z O O (A9 0 x)<|B4 O O O O (E0 (k:=0) (i:=x) (a:=gt R y) sizeOf200 rfl rfl rfl rfl (by first|omega|(simp;omega)|simp))<|Z O O (A9 0 y)<|B4 O O O O (E0 (k:=0) (i:=y) (a:=gt R x) sizeOf200 rfl rfl rfl rfl (by first|omega|(simp;omega)|simp))<|V' 15 O ?_
 obtain⟨b3,P⟩:∃qq__:Nat,(↑y-1:Int)=(qq__:Int):=⟨(↑y-1:Int).toNat,(by omega)⟩
 rw[P]
 exact O7 (x+1) b3 ((R.set x (gt R y)).set y (gt R x))<|⟨by omega,by omega,by omega,I1 hP (by omega) (by omega)⟩
theorem A7z(m:Mem)(hL:L.length≤1000000)(hG:GoodL Q m L)(hC:CQ fc){pv:Nat}{zpv:Int}(hza:za=a)(hzb:zb=b)(hzpv:zpv=pv)(hap:a≤pv)(hpb:pv<b)(hbl:b≤L.length):Mut prog 320 #[v,J za,J zb,J zpv,Fc fc] m [A5 v 200 L] (fun _ Es u=>∃p:Nat,u=J p∧∃R,Es=[A5 v 200 R]∧R.Perm L∧(a<p∧p≤b)):=by
 subst hza
 subst hzb
 subst hzpv
 refine G3 func320 O ntmps320 fun V=>q' 6 O<|B9 16 [13,15] [13,15]<|U' 6 O<|Z O O (A9 0 pv)<|Z O O (F4 0 (pv) O O O)<|U' 2 O<|Z O O (A9 0 a)<|Z O O (F4 0 (a) O O O)<|Z O O (A9 0 a)<|B4 O O O O (E0 (k:=0) (i:=a) (a:=gt L pv) sizeOf200 rfl rfl rfl rfl (by first|omega|(simp;omega)|simp))<|Z O O (A9 0 pv)<|B4 O O O O (E0 (k:=0) (i:=pv) (a:=gt L a) sizeOf200 rfl rfl rfl rfl (by first|omega|(simp;omega)|simp))<|V' 2 O ?_
 obtain⟨R1,r⟩:∃qq__:List Q5,qq__=(L.set a (gt L pv)).set pv (gt L a):=⟨_,rfl⟩
 have o:R1.Perm L:=(by rw[r];exact I1 (.refl _) (by omega) (by omega))
 have F:((L.set a (gt L pv)).set pv (gt L a))=R1:=r.symm
 rw[F]
 refine have N:=o.length_eq;q' 11 O ?_
 obtain⟨G,s⟩:∃qq__:Nat,(↑b-1:Int)=(qq__:Int):=⟨(↑b-1:Int).toNat,(by omega)⟩
 rw[s]
 refine Di (fun(p:Nat) (q:Nat) (R:List Q5)=>q+1-p) (fun p q R=>[A5 (v) 200 (R)]) (fun p q R=>[(0,v),(1,J a),(4,Fc fc),(11,J p),(12,J q)]) (fun p q R=>a+1≤p∧p≤b∧a≤q∧q<b∧R.Perm L) (a+1) G R1 ?_ ?_
 ·exact⟨by omega,by omega,by omega,by omega,o⟩
 rintro p q R ⟨hp,T,a1,a2,H⟩
 refine have a0:=H.length_eq;q' 3 O ?_
 refine J4 (fun(x:Nat)=>q+1-x) (fun x=>[A5 (v) 200 (R)]) (fun x=>[(0,v),(1,J a),(4,Fc fc),(11,J x),(12,J q)]) (fun x=>p≤x∧x≤b) p ?_ ?_
 ·exact⟨E' _,by omega⟩
 rintro x ⟨a3,a4⟩
 refine q' 1 O ?_
 refine Bm (fun(c:Bool)=>m) (fun c=>[A5 (v) 200 (R)]) (fun c=>[(0,v),(1,J a),(4,Fc fc),(11,J x),(12,J q),(47,.bool (c))]) (fun c=>(c=true→x≤q)) ?_ ?_
 ·refine B9 17 [] []<|U' 2 O<|C' O O (X.leq O O) (fun W=>?_) fun W=>?_
  ·refine U' 4 O<|Z O O (A9 0 a)<|Z O O (F4 0 (a) O O O)<|U' 2 O<|Z O O (A9 0 x)<|Z O O (F4 0 (x) O O O) ?_
   obtain⟨z5,I⟩:=hC.2 _ (gt R a) (gt R x) (GoodL.at_ (by first|exact hG|exact hG.perm ‹_›) (by first|omega|(simp;omega))).any (GoodL.at_ (by first|exact hG|exact hG.perm ‹_›) (by first|omega|(simp;omega))).any
   refine Z O O (E1 hC.1 rfl rfl I)<|C' O O (X.lss O O) (fun Y=>?_) fun Y=>?_
   ·exact U' 2 O<|V' 1 O<|H5 false<|fun f=>by first|(cases f;done)|omega
   exact U' 2 O<|V' 1 O<|H5 true<|fun f=>by first|(cases f;done)|omega
  exact U' 14 O<|V' 1 O<|H5 false<|fun f=>by first|(cases f;done)|omega
 rintro c t
 try dsimp only at t
 have g:=t
 refine L1 rfl (fun h9=>?_) (fun h9=>?_)
 ·refine q' 3 O ?_
  have P:=g ‹_›
  exact q' 7 O<|I6 (x+1)<|⟨by omega,by omega⟩
 refine q' 7 O ?_
 refine J4 (fun(y:Nat)=>y) (fun y=>[A5 (v) 200 (R)]) (fun y=>[(0,v),(1,J a),(4,Fc fc),(11,J x),(12,J y)]) (fun y=>a≤y∧y≤q) q ?_ ?_
 ·exact⟨by omega,by omega⟩
 rintro y ⟨a5,a6⟩
 refine q' 1 O ?_
 refine Bm (fun(d:Bool)=>m) (fun d=>[A5 (v) 200 (R)]) (fun d=>[(0,v),(1,J a),(4,Fc fc),(11,J x),(12,J y),(65,.bool (d))]) (fun d=>(d=true→x≤y)) ?_ ?_
 ·refine B9 16 [] []<|U' 2 O<|C' O O (X.leq O O) (fun B=>?_) fun B=>?_
  ·refine U' 4 O<|Z O O (A9 0 a)<|Z O O (F4 0 (a) O O O)<|U' 2 O<|Z O O (A9 0 y)<|Z O O (F4 0 (y) O O O) ?_
   obtain⟨a7,w⟩:=hC.2 _ (gt R a) (gt R y) (GoodL.at_ (by first|exact hG|exact hG.perm ‹_›) (by first|omega|(simp;omega))).any (GoodL.at_ (by first|exact hG|exact hG.perm ‹_›) (by first|omega|(simp;omega))).any
   refine Z O O (E1 hC.1 rfl rfl w)<|C' O O (X.lss O O) (fun C=>?_) fun C=>?_
   ·exact U' 1 O<|V' 1 O<|H5 true<|fun f=>by first|(cases f;done)|omega
   exact U' 1 O<|V' 1 O<|H5 false<|fun f=>by first|(cases f;done)|omega
  exact U' 13 O<|V' 1 O<|H5 false<|fun f=>by first|(cases f;done)|omega
 rintro d n
 try dsimp only at n
 have l:=n
 refine L1 rfl (fun D=>?_) (fun D=>?_)
 ·refine q' 3 O ?_
  have S:=l ‹_›
  refine q' 7 O ?_
  obtain⟨K,z⟩:∃qq__:Nat,(↑y-1:Int)=(qq__:Int):=⟨(↑y-1:Int).toNat,(by omega)⟩
  rw[z]
  exact I6 K<|⟨by omega,by omega⟩
 refine q' 10 O<|c' (X.gtr O O) (fun E=>?_) fun E=>?_
 ·exact U 16 O<|A0 O O<|I2<|⟨_,rfl,_,rfl,H,(by omega)⟩
 refine U 6 O<|B9 16 [13,15] [13,15]<|U' 6 O<|Z O O (A9 0 y)<|Z O O (F4 0 (y) O O O)<|U' 2 O<|Z O O (A9 0 x)<|Z O O (F4 0 (x) O O O)<|Z O O (A9 0 x)<|B4 O O O O (E0 (k:=0) (i:=x) (a:=gt R y) sizeOf200 rfl rfl rfl rfl (by first|omega|(simp;omega)|simp))<|Z O O (A9 0 y)<|B4 O O O O (E0 (k:=0) (i:=y) (a:=gt R x) sizeOf200 rfl rfl rfl rfl (by first|omega|(simp;omega)|simp))<|V' 15 O ?_
 obtain⟨M,A⟩:∃qq__:Nat,(↑y-1:Int)=(qq__:Int):=⟨(↑y-1:Int).toNat,(by omega)⟩
 rw[A]
 exact O7 (x+1) M ((R.set x (gt R y)).set y (gt R x))<|⟨by omega,by omega,by omega,by omega,I1 H (by omega) (by omega)⟩
theorem Oa(m:Mem)(hL:L.length≤1000000)(hG:GoodL Q m L)(hC:CQ fc)(hsw:0≤sw∧sw≤1000)(hza:za=a)(hzb:zb=b)(ha:a<L.length)(hb:b<L.length):Mut prog 334 #[v,J za,J zb,Pt b0 0,Fc fc] m [A5 v 200 L,blk b0 3 [J sw]] (fun _ Es u=>∃(x y:Nat) (s':Int),u= .tuple #[J (x:Nat),J (y:Nat)]∧Es=[A5 v 200 L,blk b0 3 [J s']]∧((x=a∧y=b)∨(x=b∧y=a))∧sw≤s'∧s'≤sw+1):=by
 subst hza
 subst hzb
 refine G3 func334 O ntmps334 fun d=>q' 8 O<|B9 11 [] []<|U' 3 O<|Z O O (A9 0 b)<|Z O O (F4 0 (b) O O O)<|U' 2 O<|Z O O (A9 0 a)<|Z O O (F4 0 (a) O O O) ?_
 obtain⟨g,c⟩:=hC.2 _ (gt L b) (gt L a) (GoodL.at_ (by first|exact hG|exact hG.perm ‹_›) (by first|omega|(simp;omega))).any (GoodL.at_ (by first|exact hG|exact hG.perm ‹_›) (by first|omega|(simp;omega))).any
 refine Z O O (E1 hC.1 rfl rfl c)<|C' O O (X.lss O O) (fun f=>?_) fun f=>?_
 ·exact V' 6 O<|b' 1 O O O<|U 2 O<|G7 (C1 (k:=1) sizeOf3 rfl rfl rfl rfl (J' rfl))<|U 12 O<|B7 O O O<|I2<|⟨b,a,_,rfl,rfl,by omega,by omega,by omega⟩
 exact V' 13 O<|B7 O O O<|I2<|⟨a,b,_,rfl,rfl,by omega,by omega,by omega⟩
theorem Lz(m:Mem)(hL:L.length≤1000000)(hG:GoodL Q m L)(hC:CQ fc)(hsw:0≤sw∧sw≤990){c:Nat}{zc:Int}(hza:za=a)(hzb:zb=b)(hzc:zc=c)(ha:a<L.length)(hb:b<L.length)(hc:c<L.length):Mut prog 332 #[v,J za,J zb,J zc,Pt b0 0,Fc fc] m [A5 v 200 L,blk b0 3 [J sw]] (fun _ Es u=>∃(x:Nat) (s':Int),u=J (x:Nat)∧Es=[A5 v 200 L,blk b0 3 [J s']]∧(x=a∨x=b∨x=c)∧sw≤s'∧s'≤sw+3):=by
 subst hza
 subst hzb
 subst hzc
 refine G3 func332 O ntmps332 fun y=>q' 12 O ?_
 refine C5 (C8 (A:=[]) call334 rfl (.refl _) (Oa _ (L:=L) (sw:=sw) (by omega) hG hC (by omega) (a:=a) (b:=b) (by omega) (by omega) (by omega) (by omega))) (by decide) (fun K f q g d=>?_)
 obtain⟨B,C,D,rfl,rfl,E,F⟩:=d
 refine have hG:=hG.mono g;U 14 O ?_
 refine C5 (C8 (A:=[]) call334 rfl (.refl _) (Oa _ (L:=L) (sw:=D) (by omega) hG hC (by omega) (a:=C) (b:=c) (by omega) (by omega) (by omega) (by omega))) (by decide) (fun M f q k d=>?_)
 obtain⟨n,G,o,rfl,rfl,r,s⟩:=d
 refine have hG:=hG.mono k;U 14 O ?_
 refine C5 (C8 (A:=[]) call334 rfl (.refl _) (Oa _ (L:=L) (sw:=o) (by omega) hG hC (by omega) (a:=B) (b:=n) (by omega) (by omega) (by omega) (by omega))) (by decide) (fun z f q l d=>?_)
 obtain⟨H,p,I,rfl,rfl,t,w⟩:=d
 exact U 14 O<|A0 O O<|I2<|⟨p,_,rfl,rfl,by omega,by omega,by omega⟩
theorem LJ(m:Mem)(hL:L.length≤1000000)(hG:GoodL Q m L)(hC:CQ fc)(hsw:0≤sw∧sw≤980)(hza:za=a)(ha:1≤a)(hb:a+1<L.length):Mut prog 331 #[v,J za,Pt b0 0,Fc fc] m [A5 v 200 L,blk b0 3 [J sw]] (fun _ Es u=>∃(x:Nat) (s':Int),u=J (x:Nat)∧Es=[A5 v 200 L,blk b0 3 [J s']]∧(x=a-1∨x=a∨x=a+1)∧sw≤s'∧s'≤sw+3):=by
 subst hza
 refine G3 func331 O ntmps331 fun g=>q' 15 O ?_
 refine C5 (C8 (A:=[]) call332 rfl (.refl _) (Lz _ (L:=L) (sw:=sw) (by omega) hG hC (by omega) (a:=a-1) (b:=a) (c:=a+1) (by omega) (by omega) (by omega) (by omega) (by omega) (by omega))) (by decide) (fun p k q f d=>?_)
 obtain⟨l,r,rfl,rfl,n,o⟩:=d
 exact U 4 O<|A0 O O<|I2<|⟨l,_,rfl,rfl,by omega,by omega,by omega⟩
theorem A7v(m:Mem)(hL:L.length≤1000000)(hG:GoodL Q m L)(hC:CQ fc)(hza:za=a)(hzb:zb=b)(hab:a+12<b)(hbl:b≤L.length):Mut prog 317 #[v,J za,J zb,Fc fc] m [A5 v 200 L] (fun _ Es u=>∃p:Nat,∃h:Int,u= .tuple #[J p,J h]∧∃R,Es=[A5 v 200 R]∧R.Perm L∧(R=L∧a≤p∧p<b)):=by
 subst hza
 subst hzb
 refine G3 func317 O ntmps317 fun P=>q' 16 O<|n' zeroValue3 O fun b1=>U 6 O<|y' (X.quo rfl rfl (by omega) (by omega) (by omega))<|y' (X.mul rfl rfl (by omega) (by omega))<|U 8 O<|y' (X.quo rfl rfl (by omega) (by omega) (by omega))<|y' (X.mul rfl rfl (by omega) (by omega))<|U 8 O<|y' (X.quo rfl rfl (by omega) (by omega) (by omega))<|y' (X.mul rfl rfl (by omega) (by omega))<|U 8 O<|y' (OpX.t (X.geq rfl rfl) (by omega))<|U 7 O<|c' (X.geq O O) (fun S=>?_) fun S=>?_
 ·refine U 8 O ?_
  refine C5 (K5 [1,0] call331 O (LJ _ (L:=L) (sw:=0) (by omega) hG hC (by omega) (a:=(↑a+(((↑b-↑a)/4)*1):Int).toNat) (by omega) (by omega) (by omega))) (by decide) (fun m3 g q o f=>?_)
  obtain⟨Y,w6,rfl,rfl,a0,a1⟩:=f
  refine have hG:=hG.mono o;U 8 O ?_
  refine C5 (C8 (A:=[]) call331 rfl (.refl _) (LJ _ (L:=L) (sw:=w6) (by omega) hG hC (by omega) (a:=(↑a+(((↑b-↑a)/4)*2):Int).toNat) (by omega) (by omega) (by omega))) (by decide) (fun m9 g q k f=>?_)
  obtain⟨z,B,rfl,rfl,E,F⟩:=f
  refine have hG:=hG.mono k;U 7 O ?_
  refine C5 (C8 (A:=[]) call331 rfl (.refl _) (LJ _ (L:=L) (sw:=B) (by omega) hG hC (by omega) (a:=(↑a+(((↑b-↑a)/4)*3):Int).toNat) (by omega) (by omega) (by omega))) (by decide) (fun T g q l f=>?_)
  obtain⟨C,D,rfl,rfl,G,H⟩:=f
  refine have hG:=hG.mono l;U 9 O ?_
  refine C5 (C8 (A:=[]) call332 rfl (.refl _) (Lz _ (L:=L) (sw:=D) (by omega) hG hC (by omega) (a:=Y) (b:=z) (c:=C) (by omega) (by omega) (by omega) (by omega) (by omega) (by omega))) (by decide) (fun V g q n f=>?_)
  obtain⟨a2,a3,rfl,rfl,I,K⟩:=f
  refine have hG:=hG.mono n;U 5 O<|b' 1 O O O<|U 5 O<|c' (X.eql O O) (fun r=>?_) fun r=>?_
  ·refine U 13 O ?_
   refine B7 rfl rfl rfl (fun w' d=>B3 (d.weaken (.cons_cons _ (.cons _ .slnil))) ?_)
   exact⟨_,_,rfl,_,rfl,.refl _,rfl,by omega,by omega⟩
  refine U 6 O<|c' (X.eql O O) (fun s=>?_) fun s=>?_
  ·refine U 13 O ?_
   refine B7 rfl rfl rfl (fun w' d=>B3 (d.weaken (.cons_cons _ (.cons _ .slnil))) ?_)
   exact⟨_,_,rfl,_,rfl,.refl _,rfl,by omega,by omega⟩
  refine U 13 O ?_
  refine B7 rfl rfl rfl (fun w' d=>B3 (d.weaken (.cons_cons _ (.cons _ .slnil))) ?_)
  exact⟨_,_,rfl,_,rfl,.refl _,rfl,by omega,by omega⟩
 refine U 11 O ?_
 refine C5 (K5 [1,0] call332 O (Lz _ (L:=L) (sw:=0) (by omega) hG hC (by omega) (a:=(↑a+(((↑b-↑a)/4)*1):Int).toNat) (b:=(↑a+(((↑b-↑a)/4)*2):Int).toNat) (c:=(↑a+(((↑b-↑a)/4)*3):Int).toNat) (by omega) (by omega) (by omega) (by omega) (by omega) (by omega))) (by decide) (fun W g q w f=>?_)
 obtain⟨a4,a5,rfl,rfl,M,N⟩:=f
 refine U 5 O<|b' 1 O O O<|U 5 O<|c' (X.eql O O) (fun x=>?_) fun x=>?_
 ·refine U 13 O ?_
  refine B7 rfl rfl rfl (fun w' d=>B3 (d.weaken (.cons_cons _ (.cons _ .slnil))) ?_)
  exact⟨_,_,rfl,_,rfl,.refl _,rfl,by omega,by omega⟩
 refine U 6 O<|c' (X.eql O O) (fun y=>?_) fun y=>?_
 ·refine U 13 O ?_
  refine B7 rfl rfl rfl (fun w' d=>B3 (d.weaken (.cons_cons _ (.cons _ .slnil))) ?_)
  exact⟨_,_,rfl,_,rfl,.refl _,rfl,by omega,by omega⟩
 refine U 13 O ?_
 refine B7 rfl rfl rfl (fun w' d=>B3 (d.weaken (.cons_cons _ (.cons _ .slnil))) ?_)
 exact⟨_,_,rfl,_,rfl,.refl _,rfl,by omega,by omega⟩
theorem A5X(m:Mem)(hL:L.length≤1000000)(hG:GoodL Q m L)(hC:CQ fc)(hza:za=a)(hzb:zb=b)(hab:a+12<b)(hbl:b≤L.length):Mut prog 319 #[v,J za,J zb,Fc fc] m [A5 v 200 L] (fun _ Es u=>∃q:Bool,u= .bool q∧∃R,Es=[A5 v 200 R]∧R.Perm L∧True):=by
 subst hza
 subst hzb
 refine G3 func319 O ntmps319 fun a0=>q' 19 O ?_
 refine Di (fun(k:Nat) (i:Nat) (R:List Q5)=>5-k) (fun k i R=>[A5 (v) 200 (R)]) (fun k i R=>[(0,v),(1,J a),(2,J b),(3,Fc fc),(9,J i),(10,J k)]) (fun k i R=>k≤5∧a+1≤i∧i≤b∧R.Perm L) 0 (a+1) L ?_ ?_
 ·exact⟨by omega,by omega,by omega,.refl _⟩
 rintro k i R ⟨hk,a1,a2,c⟩
 refine have p:=c.length_eq;q' 4 O<|c' (X.lss O O) (fun h2=>?_) fun h2=>?_
 ·refine U 9 O ?_
  refine J4 (fun(x:Nat)=>b-x) (fun x=>[A5 (v) 200 (R)]) (fun x=>[(0,v),(1,J a),(2,J b),(3,Fc fc),(9,J x),(10,J k)]) (fun x=>i≤x∧x≤b) i ?_ ?_
  ·exact⟨E' _,by omega⟩
  rintro x ⟨a3,a4⟩
  refine q' 1 O ?_
  refine Bm (fun(d:Bool)=>m) (fun d=>[A5 (v) 200 (R)]) (fun d=>[(0,v),(1,J a),(2,J b),(3,Fc fc),(9,J x),(10,J k),(36,.bool (d))]) (fun d=>(d=true→x<b)) ?_ ?_
  ·refine B9 18 [] []<|U' 2 O<|C' O O (X.lss O O) (fun h4=>?_) fun h4=>?_
   ·refine U' 4 O<|Z O O (A9 0 x)<|Z O O (F4 0 (x) O O O)<|U' 3 O<|Z O O (A9 0 (x-1))<|Z O O (F4 0 ((x-1)) O O O) ?_
    obtain⟨z5,S⟩:=hC.2 _ (gt R x) (gt R (x-1)) (GoodL.at_ (by first|exact hG|exact hG.perm ‹_›) (by first|omega|(simp;omega))).any (GoodL.at_ (by first|exact hG|exact hG.perm ‹_›) (by first|omega|(simp;omega))).any
    refine Z O O (E1 hC.1 rfl rfl S)<|C' O O (X.lss O O) (fun h7=>?_) fun h7=>?_
    ·exact U' 2 O<|V' 1 O<|H5 false<|fun o=>by first|(cases o;done)|omega
    exact U' 2 O<|V' 1 O<|H5 true<|fun o=>by first|(cases o;done)|omega
   exact U' 15 O<|V' 1 O<|H5 false<|fun o=>by first|(cases o;done)|omega
  rintro d s
  try dsimp only at s
  have f:=s
  refine L1 rfl (fun h9=>?_) (fun h9=>?_)
  ·refine q' 3 O ?_
   have V:=f ‹_›
   exact q' 7 O<|I6 (x+1)<|⟨by omega,by omega⟩
  refine q' 10 O<|c' (X.eql O O) (fun F=>?_) fun F=>?_
  ·exact U 15 O<|A0 O O<|I2<|⟨_,rfl,_,rfl,c,trivial⟩
  refine U 11 O<|c' (X.lss O O) (fun G=>?_) fun G=>?_
  ·exact U 15 O<|A0 O O<|I2<|⟨_,rfl,_,rfl,c,trivial⟩
  refine U 6 O<|B9 18 [15,17] [15,17,100004]<|U' 4 O<|J2 O O O (fun _ _ g=>(X.sub rfl rfl (by omega) (by omega))) (by decide)<|U' 3 O<|Z O O (A9 0 (x-1))<|Z O O (F4 0 ((x-1)) O O O)<|U' 2 O<|Z O O (A9 0 x)<|Z O O (F4 0 (x) O O O)<|Z O O (A9 0 x)<|B4 O O O O (E0 (k:=0) (i:=x) (a:=gt R (x-1)) sizeOf200 rfl rfl rfl rfl (by first|omega|(simp;omega)|simp))<|Z O O (A9 0 (x-1))<|B4 O O O O (E0 (k:=0) (i:=(x-1)) (a:=gt R x) sizeOf200 rfl rfl rfl rfl (by first|omega|(simp;omega)|simp))<|V' 1 O ?_
  refine Bm (fun(R2:List Q5)=>m) (fun R2=>[A5 (v) 200 (R2)]) (fun R2=>[(0,v),(1,J a),(2,J b),(3,Fc fc),(9,J x),(10,J k)]) (fun R2=>R2.Perm L) ?_ ?_
  ·refine q' 1 O ?_
   obtain⟨R1,t⟩:∃qq__:List Q5,qq__=(R.set x (gt R (x-1))).set (x-1) (gt R x):=⟨_,rfl⟩
   have l:R1.Perm L:=(by rw[t];exact I1 c (by omega) (by omega))
   have r:((R.set x (gt R (x-1))).set (x-1) (gt R x))=R1:=t.symm
   rw[r]
   refine have W:=l.length_eq;q' 4 O<|c' (X.geq O O) (fun H=>?_) fun H=>?_
   ·refine U 11 O ?_
    obtain⟨w,A⟩:∃qq__:Nat,(↑x-1:Int)=(qq__:Int):=⟨(↑x-1:Int).toNat,(by omega)⟩
    rw[A]
    refine S5 (fun(y:Nat) (R:List Q5)=>y) (fun y R=>[A5 (v) 200 (R)]) (fun y R=>[(0,v),(1,J a),(2,J b),(3,Fc fc),(9,J x),(10,J k),(11,J y)]) (fun y R=>y≤w∧R.Perm L) w R1 ?_ ?_
    ·exact⟨by omega,l⟩
    rintro y R ⟨hy,c⟩
    refine have p:=c.length_eq;q' 4 O<|c' (X.geq O O) (fun I=>?_) fun I=>?_
    ·refine U 9 O<|B9 13 [] []<|U' 3 O<|Z O O (A9 0 y)<|Z O O (F4 0 (y) O O O)<|U' 3 O<|Z O O (A9 0 (y-1))<|Z O O (F4 0 ((y-1)) O O O) ?_
     obtain⟨a5,B⟩:=hC.2 _ (gt R y) (gt R (y-1)) (GoodL.at_ (by first|exact hG|exact hG.perm ‹_›) (by first|omega|(simp;omega))).any (GoodL.at_ (by first|exact hG|exact hG.perm ‹_›) (by first|omega|(simp;omega))).any
     refine Z O O (E1 hC.1 rfl rfl B)<|C' O O (X.lss O O) (fun K=>?_) fun K=>?_
     ·refine U' 1 O<|V' 4 O<|B9 18 [15,17] [15,17,100004]<|U' 4 O<|J2 O O O (fun _ _ g=>(X.sub rfl rfl (by omega) (by omega))) (by decide)<|U' 3 O<|Z O O (A9 0 (y-1))<|Z O O (F4 0 ((y-1)) O O O)<|U' 2 O<|Z O O (A9 0 y)<|Z O O (F4 0 (y) O O O)<|Z O O (A9 0 y)<|B4 O O O O (E0 (k:=0) (i:=y) (a:=gt R (y-1)) sizeOf200 rfl rfl rfl rfl (by first|omega|(simp;omega)|simp))<|Z O O (A9 0 (y-1))<|B4 O O O O (E0 (k:=0) (i:=(y-1)) (a:=gt R y) sizeOf200 rfl rfl rfl rfl (by first|omega|(simp;omega)|simp))<|V' 8 O ?_
      obtain⟨T,C⟩:∃qq__:Nat,(↑y-1:Int)=(qq__:Int):=⟨(↑y-1:Int).toNat,(by omega)⟩
      rw[C]
      exact K2 T ((R.set y (gt R (y-1))).set (y-1) (gt R y))<|⟨by omega,I1 c (by omega) (by omega)⟩
     exact U' 1 O<|V' 9 O<|H5 R<|c
    exact U 8 O<|H5 R<|c
   exact U 5 O<|H5 R1<|l
  rintro R2 D
  refine have n:=D;have Y:=n.length_eq;q' 5 O<|c' (X.geq O O) (fun M=>?_) fun M=>?_
  ·refine U 11 O ?_
   refine S5 (fun(z:Nat) (R:List Q5)=>b-z) (fun z R=>[A5 (v) 200 (R)]) (fun z R=>[(0,v),(1,J a),(2,J b),(3,Fc fc),(9,J x),(10,J k),(12,J z)]) (fun z R=>x+1≤z∧R.Perm L) (x+1) R2 ?_ ?_
   ·exact⟨by omega,n⟩
   rintro z R ⟨hz,c⟩
   refine have p:=c.length_eq;q' 5 O<|c' (X.lss O O) (fun N=>?_) fun N=>?_
   ·refine U 9 O<|B9 13 [] []<|U' 3 O<|Z O O (A9 0 z)<|Z O O (F4 0 (z) O O O)<|U' 3 O<|Z O O (A9 0 (z-1))<|Z O O (F4 0 ((z-1)) O O O) ?_
    obtain⟨a6,E⟩:=hC.2 _ (gt R z) (gt R (z-1)) (GoodL.at_ (by first|exact hG|exact hG.perm ‹_›) (by first|omega|(simp;omega))).any (GoodL.at_ (by first|exact hG|exact hG.perm ‹_›) (by first|omega|(simp;omega))).any
    refine Z O O (E1 hC.1 rfl rfl E)<|C' O O (X.lss O O) (fun P=>?_) fun P=>?_
    ·exact U' 1 O<|V' 4 O<|B9 18 [15,17] [15,17,100004]<|U' 4 O<|J2 O O O (fun _ _ g=>(X.sub rfl rfl (by omega) (by omega))) (by decide)<|U' 3 O<|Z O O (A9 0 (z-1))<|Z O O (F4 0 ((z-1)) O O O)<|U' 2 O<|Z O O (A9 0 z)<|Z O O (F4 0 (z) O O O)<|Z O O (A9 0 z)<|B4 O O O O (E0 (k:=0) (i:=z) (a:=gt R (z-1)) sizeOf200 rfl rfl rfl rfl (by first|omega|(simp;omega)|simp))<|Z O O (A9 0 (z-1))<|B4 O O O O (E0 (k:=0) (i:=(z-1)) (a:=gt R z) sizeOf200 rfl rfl rfl rfl (by first|omega|(simp;omega)|simp))<|V' 8 O<|K2 (z+1) ((R.set z (gt R (z-1))).set (z-1) (gt R z))<|⟨by omega,I1 c (by omega) (by omega)⟩
    exact U' 1 O<|V' 16 O<|O7 (k+1) x R<|⟨by omega,by omega,by omega,c⟩
   exact U 15 O<|O7 (k+1) x R<|⟨by omega,by omega,by omega,c⟩
  exact U 12 O<|O7 (k+1) x R2<|⟨by omega,by omega,by omega,n⟩
 exact U 14 O<|A0 O O<|I2<|⟨_,rfl,_,rfl,c,trivial⟩
theorem B0Q(m:Mem)(hL:L.length≤1000000)(hG:GoodL Q m L)(hC:CQ fc)(hza:za=a)(hzb:zb=b)(hab:a+12<b)(hbl:b≤L.length):Mut prog 316 #[v,J za,J zb,Fc fc] m [A5 v 200 L] (fun _ Es u=>u= .tuple #[]∧∃R,Es=[A5 v 200 R]∧R.Perm L∧True):=by
 subst hza
 subst hzb
 refine G3 func316 O ntmps316 fun N=>q' 9 O ?_
 obtain⟨c,y⟩:∃qq__:Nat,(↑b-↑a:Int)=(qq__:Int):=⟨(↑b-↑a:Int).toNat,(by omega)⟩
 rw[y]
 refine q' 2 O<|y' (OpX.t (X.geq rfl rfl) (by omega))<|U 6 O<|y' (O8 runUnderlying3 runUnderlying439 rfl (U2 (by omega) (by omega)))<|n' zeroValue439 O fun I=>G7 (C1 (k:=0) sizeOf439 rfl rfl rfl rfl (J' rfl))<|U 5 O ?_
 refine C0 (T.call call306 rfl (A5A _ (z:=(↑c:Int)) (by omega))) (by decide) (fun m2 _ K q=>?_)
 obtain⟨W,rfl,Y,a0⟩:=q
 refine U 7 O<|y' (X.quo rfl rfl (by omega) (by omega) (by omega))<|y' (X.mul rfl rfl (by omega) (by omega))<|U 6 O ?_
 obtain⟨H,B⟩:∃qq__:Nat,((↑a+((↑c/4)*2))-1:Int)=(qq__:Int):=⟨((↑a+((↑c/4)*2))-1:Int).toNat,(by omega)⟩
 rw[B]
 refine Di (fun(x:Nat) (w:Int) (R:List Q5)=>b+2-x) (fun x w R=>[blk I 439 [.int .u64 (w)],A5 (v) 200 (R)]) (fun x w R=>[(0,v),(1,J a),(8,J c),(9,Pt I 0),(10,.int .u64 (W)),(11,J x)]) (fun x w R=>(a≤x∧(x:Int)≤a+(c:Int)/4*2+2)∧CO w∧R.Perm L) H (↑c) L ?_ ?_
 ·exact⟨by omega,by unfold CO;omega,.refl _⟩
 rintro x w R ⟨hx,C,E⟩
 refine N5 (fun g=>?_)
 refine have V:=E.length_eq;q' 6 O<|y' (X.quo rfl rfl (by omega) (by omega) (by omega))<|y' (X.mul rfl rfl (by omega) (by omega))<|U 2 O<|c' (X.leq O O) (fun P=>?_) fun P=>?_
 ·refine U 9 O ?_
  refine C5 (C8 (A:=[A5 (v) 200 (R)]) call307 rfl (.refl _) (A2a _ (z:=w) C)) (by decide) (fun m9 S u_ l q=>?_)
  obtain⟨D,rfl,rfl,p⟩:=q
  refine U 1 O<|y' (A5y rfl rfl (by omega) (by omega))<|Q9 (A4N rfl rfl (by unfold CO;omega)) (by decide) fun o M=>y' (O8 runUnderlying358 runUnderlying3 rfl (P7 (by omega) (by omega)))<|U 8 O<|c' (X.geq O O) (fun F=>?_) fun F=>?_
  ·refine U 9 O ?_
   obtain⟨d,ho1_⟩:∃qq__:Nat,(o-↑c:Int)=(qq__:Int):=⟨(o-↑c:Int).toNat,(by omega)⟩
   rw[ho1_]
   refine E2<|B9 20 [17,19] [17,19,100005]<|U' 5 O<|J2 O O O (fun _ _ s=>(X.add rfl rfl (by omega) (by omega))) (by decide)<|U' 4 O<|Z O O (A9 1 (a+d))<|Z O O (F4 1 ((a+d)) O O O)<|U' 2 O<|Z O O (A9 1 x)<|Z O O (F4 1 (x) O O O)<|Z O O (A9 1 x)<|B4 O O O O (E0 (k:=1) (i:=x) (a:=gt R (a+d)) sizeOf200 rfl rfl rfl rfl (by first|omega|(simp;omega)|simp))<|Z O O (A9 1 (a+d))<|B4 O O O O (E0 (k:=1) (i:=(a+d)) (a:=gt R x) sizeOf200 rfl rfl rfl rfl (by first|omega|(simp;omega)|simp))<|V' 8 O ?_
   obtain⟨r,n⟩:∃qq__:Nat,(↑x+1:Int)=(qq__:Int):=⟨(↑x+1:Int).toNat,(by omega)⟩
   rw[n]
   exact G9 g l<|O7 r D ((R.set x (gt R (a+d))).set (a+d) (gt R x))<|⟨by omega,p,I1 E (by omega) (by omega)⟩
  refine U 5 O ?_
  obtain⟨f,ho2_⟩:∃qq__:Nat,(o:Int)=(qq__:Int):=⟨(o:Int).toNat,(by omega)⟩
  rw[ho2_]
  refine B9 20 [17,19] [17,19,100005]<|U' 5 O<|J2 O O O (fun _ _ s=>(X.add rfl rfl (by omega) (by omega))) (by decide)<|U' 4 O<|Z O O (A9 1 (a+f))<|Z O O (F4 1 ((a+f)) O O O)<|U' 2 O<|Z O O (A9 1 x)<|Z O O (F4 1 (x) O O O)<|Z O O (A9 1 x)<|B4 O O O O (E0 (k:=1) (i:=x) (a:=gt R (a+f)) sizeOf200 rfl rfl rfl rfl (by first|omega|(simp;omega)|simp))<|Z O O (A9 1 (a+f))<|B4 O O O O (E0 (k:=1) (i:=(a+f)) (a:=gt R x) sizeOf200 rfl rfl rfl rfl (by first|omega|(simp;omega)|simp))<|V' 8 O ?_
  obtain⟨r,n⟩:∃qq__:Nat,(↑x+1:Int)=(qq__:Int):=⟨(↑x+1:Int).toNat,(by omega)⟩
  rw[n]
  exact G9 g l<|O7 r D ((R.set x (gt R (a+f))).set (a+f) (gt R x))<|⟨by omega,p,I1 E (by omega) (by omega)⟩
 refine U 7 O ?_
 refine D0 rfl (fun w' G=>B3 (G.weaken (.cons _ (.cons_cons _ .slnil))) ?_)
 exact⟨rfl,_,rfl,E,trivial⟩
def A3l(k:Nat):Prop:=∀(m:Mem) {v:Value} {L:List Q5} {a b:Nat} {ia ib il:Int} {fc:Nat} {Q:NoteT→Prop} (_:L.length≤1000000) (_:GoodL Q m L) (_:CQ fc) (_:ia=a) (_:ib=b) (_:b-a=k) (_:a≤b) (_:b≤L.length) (_:0≤il∧il≤1000),
 Mut prog 287 #[v,J ia,J ib,J il,Fc fc] m [A5 v 200 L] (fun _ Es u=>u= .tuple #[]∧∃R,Es=[A5 v 200 R]∧R.Perm L)
theorem A2I(k:Nat)(ih:∀q,q<k→A3l q):A3l k:=by
 intro m v L a b ia ib il fc Q hL c hC f7 f8 hk i4 i5 i6
 subst f7 f8
 refine G3 func287 O ntmps287 fun h0=>q' 11 O ?_
 refine lp (G:=Nat×Nat×Int×Bool×Bool×List Q5) (fun(x,y,l,wb,wp,R)=>y-x) (fun(x,y,l,wb,wp,R)=>m) (fun(x,y,l,wb,wp,R)=>[A5 (v) 200 (R)]) (fun(x,y,l,wb,wp,R)=>[(0,v),(1,J x),(2,J y),(3,J l),(4,Fc fc),(10,.bool (wb)),(11,.bool (wp))]) (fun(x,y,l,wb,wp,R)=>(a≤x∧x≤y∧y≤b)∧(0≤l∧l≤1000)∧R.Perm L) ((a,b,il,true,true,L)) ?_ ?_
 ·exact⟨by omega,by omega,.refl _⟩
 rintro⟨x,y,l,wb,wp,R⟩ b9
 conv=>enter [7];dsimp only
 conv=>enter [8];dsimp only
 try dsimp only at b9
 obtain⟨i0,hl,C⟩:=b9
 refine N5 (fun g=>?_)
 refine have h9:=C.length_eq;q' 13 O<|c' (X.leq O O) (fun h2=>?_) fun h2=>?_
 ·refine U 9 O ?_
  refine C5 (C8 (A:=[]) call314 rfl (.refl _) (B5Y _ (L:=R) (by first|omega|(simp;omega)) (by first|exact c|exact c.perm ‹_›|exact c.perm (I1 C (by omega) (by omega))) hC (a:=x) (b:=y) (by omega) (by omega) (by omega) (by omega))) (by decide) (fun m3 t u_ b6 d=>?_)
  obtain⟨rfl,R5,rfl,b3,i1⟩:=d
  replace c:=c.mono b6
  replace b3:R5.Perm L:=b3.trans (by first|exact .refl _|assumption|exact I1 C (by omega) (by omega))
  exact have f9:=b3.length_eq;U 7 O<|E9 O<|I2<|⟨rfl,_,rfl,by assumption⟩
 refine U 9 O<|c' (X.eql O O) (fun h8=>?_) fun h8=>?_
 ·refine U 9 O ?_
  refine C5 (C8 (A:=[]) call315 rfl (.refl _) (B3p _ (L:=R) (by first|omega|(simp;omega)) (by first|exact c|exact c.perm ‹_›|exact c.perm (I1 C (by omega) (by omega))) hC (a:=x) (b:=y) (by omega) (by omega) (by omega) (by omega))) (by decide) (fun m9 t u_ b1 d=>?_)
  obtain⟨rfl,R11,rfl,T,g1⟩:=d
  replace c:=c.mono b1
  replace T:R11.Perm L:=T.trans (by first|exact .refl _|assumption|exact I1 C (by omega) (by omega))
  exact have d9:=T.length_eq;U 7 O<|E9 O<|I2<|⟨rfl,_,rfl,by assumption⟩
 refine U 5 O ?_
 refine cu3 (fun(R8:List Q5) (D:Int) (E:Mem)=>E) (fun R8 D E=>[A5 (v) 200 (R8)]) (fun R8 D E=>[(0,v),(1,J x),(2,J y),(3,J D),(4,Fc fc),(10,.bool (wb)),(11,.bool (wp)),(12,J (↑y-↑x))]) (fun R8 D E=>m.le E∧R8.Perm L∧0≤D∧D≤1000) ?_ ?_
 ·refine q' 3 O ?_
  refine J6 (X.not rfl) (by decide) (fun c4=>?_) (fun c4=>?_)
  ·refine U 9 O ?_
   refine C5 (C8 (A:=[]) call316 rfl (.refl _) (B0Q _ (L:=R) (by first|omega|(simp;omega)) (by first|exact c|exact c.perm ‹_›|exact c.perm (I1 C (by omega) (by omega))) hC (a:=x) (b:=y) (by omega) (by omega) (by omega) (by omega))) (by decide) (fun c5 t u_ F d=>?_)
   obtain⟨rfl,R17,rfl,V,g2⟩:=d
   replace c:=c.mono F
   replace V:R17.Perm L:=V.trans (by first|exact .refl _|assumption|exact I1 C (by omega) (by omega))
   exact have e0:=V.length_eq;U 8 O<|PK R17 (l-1) c5<|⟨F,by assumption,by omega,by omega⟩
  exact U 5 O<|PK R l m<|⟨Mem.le_refl _,by assumption,by omega,by omega⟩
 rintro R8 D E ⟨B,f2,g3,g4⟩
 refine have c:=c.mono B;have g0:=f2.length_eq;q' 6 O ?_
 refine C5 (C8 (A:=[]) call317 rfl (.refl _) (A7v _ (L:=R8) (by first|omega|(simp;omega)) (by first|exact c|exact c.perm ‹_›|exact c.perm (I1 C (by omega) (by omega))) hC (a:=x) (b:=y) (by omega) (by omega) (by omega) (by omega))) (by decide) (fun b7 t u_ p d=>?_)
 obtain⟨b4,x27,rfl,R23,rfl,W,g5⟩:=d
 replace c:=c.mono p
 replace W:R23.Perm L:=W.trans (by first|exact .refl _|assumption|exact I1 C (by omega) (by omega))
 refine have e1:=W.length_eq;U 7 O ?_
 refine cu (G:=List Q5×Nat×Int×Mem) (fun(R12,n,H,f)=>f) (fun(R12,n,H,f)=>[A5 (v) 200 (R12)]) (fun(R12,n,H,f)=>[(0,v),(1,J x),(2,J y),(3,J D),(4,Fc fc),(10,.bool (wb)),(11,.bool (wp)),(12,J (↑y-↑x)),(13,J n),(14,J H)]) (fun(R12,n,H,f)=>b7.le f∧R12.Perm L∧x≤n∧n<y) ?_ ?_
 ·refine q' 3 O<|c' (X.eql O O) (fun c6=>?_) fun c6=>?_
  ·refine U 9 O ?_
   refine C5 (C8 (A:=[]) call318 rfl (.refl _) (B6A _ (L:=R23) (by first|omega|(simp;omega)) (by first|exact c|exact c.perm ‹_›|exact c.perm (I1 C (by omega) (by omega))) hC (a:=x) (b:=y) (by omega) (by omega) (by omega) (by omega))) (by decide) (fun c7 t u_ I d=>?_)
   obtain⟨rfl,R31,rfl,Y,g6⟩:=d
   replace c:=c.mono I
   replace Y:R31.Perm L:=Y.trans (by first|exact .refl _|assumption|exact I1 C (by omega) (by omega))
   refine have e2:=Y.length_eq;U 12 O ?_
   obtain⟨f3,c0⟩:∃qq__:Nat,((↑y-1)-(↑b4-↑x):Int)=(qq__:Int):=⟨((↑y-1)-(↑b4-↑x):Int).toNat,(by omega)⟩
   rw[c0]
   exact E2<|q' 4 O<|mt ((R31,f3,1,c7))<|⟨I,by assumption,by omega,by omega⟩
  exact U 5 O<|mt ((R23,b4,x27,b7))<|⟨Mem.le_refl _,by assumption,by omega,by omega⟩
 rintro⟨R12,n,H,f⟩ a9
 conv=>enter [7];dsimp only
 conv=>enter [8];dsimp only
 try dsimp only at a9
 obtain⟨r,c1,f4,f5⟩:=a9
 replace c:=c.mono r
 have e3:=c1.length_eq
 refine cu2 (fun(R16:List Q5) (u:Mem)=>u) (fun R16 u=>[A5 (v) 200 (R16)]) (fun R16 u=>[(0,v),(1,J x),(2,J y),(3,J D),(4,Fc fc),(10,.bool (wb)),(11,.bool (wp)),(12,J (↑y-↑x)),(13,J n)]) (fun R16 u=>f.le u∧R16.Perm L) ?_ ?_
 ·refine q' 3 O ?_
  refine J6 (X.move rfl) (by decide) (fun c8=>?_) (fun c8=>?_)
  ·refine U 3 O ?_
   refine J6 (X.move rfl) (by decide) (fun c9=>?_) (fun c9=>?_)
   ·refine U 3 O<|c' (X.eql O O) (fun d0=>?_) fun d0=>?_
    ·refine U 10 O ?_
     refine C5 (C8 (A:=[]) call319 rfl (.refl _) (A5X _ (L:=R12) (by first|omega|(simp;omega)) (by first|exact c|exact c.perm ‹_›|exact c.perm (I1 C (by omega) (by omega))) hC (a:=x) (b:=y) (by omega) (by omega) (by omega) (by omega))) (by decide) (fun d1 t u_ K d=>?_)
     obtain⟨i2,rfl,R40,rfl,a0,g7⟩:=d
     replace c:=c.mono K
     replace a0:R40.Perm L:=a0.trans (by first|exact .refl _|assumption|exact I1 C (by omega) (by omega))
     refine have e4:=a0.length_eq;U 2 O ?_
     refine L1 rfl (fun d2=>?_) (fun d2=>?_)
     ·exact q' 5 O<|E9 O<|I2<|⟨rfl,_,rfl,by assumption⟩
     exact q' 2 O<|CZ R40 d1<|⟨K,by assumption⟩
    exact U 6 O<|CZ R12 f<|⟨Mem.le_refl _,by assumption⟩
   exact U 8 O<|CZ R12 f<|⟨Mem.le_refl _,by assumption⟩
  exact U 11 O<|CZ R12 f<|⟨Mem.le_refl _,by assumption⟩
 rintro R16 u ⟨s,c2⟩
 refine have c:=c.mono s;have e5:=c2.length_eq;q' 1 O ?_
 refine Bm (fun(z:Bool)=>u) (fun z=>[A5 (v) 200 (R16)]) (fun z=>[(0,v),(1,J x),(2,J y),(3,J D),(4,Fc fc),(10,.bool (wb)),(11,.bool (wp)),(12,J (↑y-↑x)),(13,J n),(97,.bool (z))]) (fun z=>(z=true→0<x)) ?_ ?_
 ·refine B9 17 [] []<|U' 1 O<|C' O O (X.gtr O O) (fun d3=>?_) fun d3=>?_
  ·refine U' 5 O<|Z O O (A9 0 (x-1))<|Z O O (F4 0 ((x-1)) O O O)<|U' 2 O<|Z O O (A9 0 n)<|Z O O (F4 0 (n) O O O) ?_
   obtain⟨i3,c3⟩:=hC.2 _ (gt R16 (x-1)) (gt R16 n) (GoodL.at_ (by first|exact c|exact c.perm ‹_›) (by first|omega|(simp;omega))).any (GoodL.at_ (by first|exact c|exact c.perm ‹_›) (by first|omega|(simp;omega))).any
   refine Z O O (E1 hC.1 rfl rfl c3)<|C' O O (X.lss O O) (fun d4=>?_) fun d4=>?_
   ·exact U' 2 O<|V' 1 O<|H5 false<|fun h_=>by first|(cases h_;done)|omega
   exact U' 2 O<|V' 1 O<|H5 true<|fun h_=>by first|(cases h_;done)|omega
  exact U' 15 O<|V' 1 O<|H5 false<|fun h_=>by first|(cases h_;done)|omega
 rintro z b0
 try dsimp only at b0
 have b8:=b0
 refine L1 rfl (fun d5=>?_) (fun d5=>?_)
 ·refine q' 7 O ?_
  refine C5 (C8 (A:=[]) call320 rfl (.refl _) (A7z _ (L:=R16) (by first|omega|(simp;omega)) (by first|exact c|exact c.perm ‹_›|exact c.perm (I1 C (by omega) (by omega))) hC (a:=x) (b:=y) (pv:=n) (by omega) (by omega) (by omega) (by omega) (by omega) (by omega))) (by decide) (fun h1 t u_ M d=>?_)
  obtain⟨f6,rfl,R54,rfl,a1,g8⟩:=d
  replace c:=c.mono M
  replace a1:R54.Perm L:=a1.trans (by first|exact .refl _|assumption|exact I1 C (by omega) (by omega))
  refine have e6:=a1.length_eq;U 13 O<|G9 g (Mem.le_trans B (Mem.le_trans p (Mem.le_trans r (Mem.le_trans s M)))) ?_
  refine nx ((f6,y,D,wb,wp,R54)) ?_ ?_
  ·exact⟨by omega,by omega,by assumption⟩
  ((try dsimp only);omega)
 refine q' 9 O ?_
 refine C5 (C8 (A:=[]) call321 rfl (.refl _) (B5n _ (L:=R16) (by first|omega|(simp;omega)) (by first|exact c|exact c.perm ‹_›|exact c.perm (I1 C (by omega) (by omega))) hC (a:=x) (b:=y) (pv:=n) (by omega) (by omega) (by omega) (by omega) (by omega) (by omega))) (by decide) (fun h3 t u_ w d=>?_)
 obtain⟨o,a8,rfl,R60,rfl,a2,g9⟩:=d
 replace c:=c.mono w
 replace a2:R60.Perm L:=a2.trans (by first|exact .refl _|assumption|exact I1 C (by omega) (by omega))
 refine have e7:=a2.length_eq;U 28 O<|y' (X.quo rfl rfl (by omega) (by omega) (by omega))<|U 7 O<|c' (X.lss O O) (fun d6=>?_) fun d6=>?_
 ·refine U 7 O<|c' (X.geq O O) (fun d7=>?_) fun d7=>?_
  ·refine U 10 O ?_
   refine C5 (C8 (A:=[]) call287 rfl (.refl _) (ih (o-x) (by omega) _ (L:=R60) (a:=x) (b:=o) (by omega) (by first|exact c|exact c.perm ‹_›) hC (by omega) (by omega) rfl (by omega) (by omega) (by omega))) (by decide) (fun h4 t _ N d=>?_)
   obtain⟨rfl,R69,rfl,a3⟩:=d
   replace c:=c.mono N
   replace a3:R69.Perm L:=a3.trans (by first|assumption|exact .refl _)
   refine have e8:=a3.length_eq;U 9 O ?_
   obtain⟨b5,a7⟩:∃qq__:Nat,(↑o+1:Int)=(qq__:Int):=⟨(↑o+1:Int).toNat,(by omega)⟩
   rw[a7]
   refine G9 g (Mem.le_trans B (Mem.le_trans p (Mem.le_trans r (Mem.le_trans s (Mem.le_trans w N))))) ?_
   refine nx ((b5,y,D,true,a8,R69)) ?_ ?_
   ·exact⟨by omega,by omega,by assumption⟩
   ((try dsimp only);omega)
  refine U 10 O ?_
  refine C5 (C8 (A:=[]) call287 rfl (.refl _) (ih (o-x) (by omega) _ (L:=R60) (a:=x) (b:=o) (by omega) (by first|exact c|exact c.perm ‹_›) hC (by omega) (by omega) rfl (by omega) (by omega) (by omega))) (by decide) (fun h5 t _ P d=>?_)
  obtain⟨rfl,R73,rfl,a4⟩:=d
  replace c:=c.mono P
  replace a4:R73.Perm L:=a4.trans (by first|assumption|exact .refl _)
  refine have e9:=a4.length_eq;U 9 O ?_
  obtain⟨b5,a7⟩:∃qq__:Nat,(↑o+1:Int)=(qq__:Int):=⟨(↑o+1:Int).toNat,(by omega)⟩
  rw[a7]
  refine G9 g (Mem.le_trans B (Mem.le_trans p (Mem.le_trans r (Mem.le_trans s (Mem.le_trans w P))))) ?_
  refine nx ((b5,y,D,false,a8,R73)) ?_ ?_
  ·exact⟨by omega,by omega,by assumption⟩
  ((try dsimp only);omega)
 refine U 7 O<|c' (X.geq O O) (fun d8=>?_) fun d8=>?_
 ·refine U 11 O ?_
  refine C5 (C8 (A:=[]) call287 rfl (.refl _) (ih (y-(o+1)) (by omega) _ (L:=R60) (a:=(o+1)) (b:=y) (by omega) (by first|exact c|exact c.perm ‹_›) hC (by omega) (by omega) rfl (by omega) (by omega) (by omega))) (by decide) (fun h6 t _ S d=>?_)
  obtain⟨rfl,R78,rfl,a5⟩:=d
  replace c:=c.mono S
  replace a5:R78.Perm L:=a5.trans (by first|assumption|exact .refl _)
  refine have f0:=a5.length_eq;U 8 O<|G9 g (Mem.le_trans B (Mem.le_trans p (Mem.le_trans r (Mem.le_trans s (Mem.le_trans w S))))) ?_
  refine nx ((x,o,D,true,a8,R78)) ?_ ?_
  ·exact⟨by omega,by omega,by assumption⟩
  ((try dsimp only);omega)
 refine U 11 O ?_
 refine C5 (C8 (A:=[]) call287 rfl (.refl _) (ih (y-(o+1)) (by omega) _ (L:=R60) (a:=(o+1)) (b:=y) (by omega) (by first|exact c|exact c.perm ‹_›) hC (by omega) (by omega) rfl (by omega) (by omega) (by omega))) (by decide) (fun h7 t _ b2 d=>?_)
 obtain⟨rfl,R82,rfl,a6⟩:=d
 replace a6:R82.Perm L:=a6.trans (by first|assumption|exact .refl _)
 refine have f1:=a6.length_eq;U 8 O<|G9 g (Mem.le_trans B (Mem.le_trans p (Mem.le_trans r (Mem.le_trans s (Mem.le_trans w b2))))) ?_
 refine nx ((x,o,D,false,a8,R82)) ?_ ?_
 ·exact⟨by omega,by omega,by assumption⟩
 ((try dsimp only);omega)
theorem B4x(k:Nat):A3l k:=Nat.strongRecOn k fun n ih=>A2I n ih
theorem B4p(m:Mem)(hL:L.length≤1000000)(hG:GoodL Q m L)(hC:CQ fc):Mut prog 229 #[v,Fc fc] m [A5 v 200 L] (fun _ Es u=>u= .tuple #[]∧∃R,Es=[A5 v 200 R]∧R.Perm L):=by
 refine G3 func229 O ntmps229 fun n=>q' 3 O<|y' (V8 (k:=0) runUnderlying52 rfl rfl)<|U 7 O<|y' (O8 runUnderlying3 runUnderlying358 rfl (U2 (by omega) (by omega))) ?_
 refine C0 (T.call call225 rfl (NR _ (z:=↑L.length) (by omega))) (by decide) (fun r _ f c=>?_)
 obtain⟨t,rfl,p,q⟩:=c
 refine have hG:=hG.mono f;U 1 O ?_
 refine C5 (C8 (A:=[]) call287 rfl (.refl _) (B4x _ _ (L:=L) (a:=0) (b:=L.length) (by omega) (by first|exact hG|exact hG.perm ‹_›) hC (by omega) (by omega) rfl (by omega) (by omega) (by omega))) (by decide) (fun s o _ g c=>?_)
 obtain⟨rfl,R8,rfl,d⟩:=c
 replace d:R8.Perm L:=d.trans (by first|assumption|exact .refl _)
 exact have l:=d.length_eq;U 1 O<|D0 O<|I2<|⟨rfl,_,rfl,by assumption⟩
end Go.Proofs.S10
