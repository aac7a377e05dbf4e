import Derived.Test.YtooomcigmleneaaGreatT10W
set_option linter.all false
set_option maxHeartbeats 2000000
namespace Go.Proofs.T10
open Tryz Go Go.Kx
set_option maxRecDepth 20000
variable{L:List Span}{a b:Nat}{cf:Span→Span→Int}{fc:Nat}{v:Value}{za zb:Int}
def CmpOk(fc:Nat)(cf:Span→Span→Int):Prop:=Enters prog fc∧(∀(m:Mem) (a b:Span),Exact prog fc #[.agg [J a.Lo,J a.Hi].toArray,.agg [J b.Lo,J b.Hi].toArray] m (J (cf a b)))∧(∀a b:Span,(-1000000000≤a.Lo∧a.Lo≤1000000000)→(-1000000000≤b.Lo∧b.Lo≤1000000000)→(cf a b<0↔a.Lo<b.Lo))
theorem CmpOk.cl(h:CmpOk fc cf){R:List Span}(hB:Cz R){i j:Nat}:cf (gt R i) (gt R j)<0↔(gt R i).Lo<(gt R j).Lo:=h.2.2 _ _ (hB i) (hB j)
theorem B5p(m:Mem)(ca:List Value)(a:Span)(ha:Enc.rd m ca a)(cb:List Value)(b:Span)(hb:Enc.rd m cb b):Exact prog 149 #[.agg ca.toArray,.agg cb.toArray] m (J (Lp a b)):=by
 obtain rfl:=ha
 obtain rfl:=hb
 exact D4 func149 O ntmps149 fun c=>q' 2 O<|o' O O fun d=>o' O O fun f=>U 5 O<|f' O t'<|b' 1 O O O<|f' O t'<|b' 0 O O O<|y' (Mj rfl rfl)<|U 4 O<|A0 O O<|A8<|B0 rfl
theorem B4l(m:Mem)(hL:L.length≤4000000000)(hB:Cz L)(hC:CmpOk fc cf)(hza:za=a)(hzb:zb=b)(hab:a≤b)(hbl:b≤L.length):Mut prog 264 #[v,J za,J zb,Fc fc] m [A5 v 23 L] (fun _ Es u=>u= .tuple #[]∧∃R,Es=[A5 v 23 R]∧Seg L R a b∧Srt Span.Lo R a b):=by
 subst hza
 subst hzb
 refine G3 func264 O ntmps264 fun s=>q' 8 O ?_
 refine S5 (fun(i:Nat) (R:List Span)=>b-i) (fun i R=>[A5 (v) 23 (R)]) (fun i R=>[(0,v),(1,J a),(2,J b),(3,Fc fc),(8,J i)]) (fun i R=>a+1≤i∧Seg L R a b∧Srt Span.Lo R a i) (a+1) L ?_ ?_
 ·exact⟨E' _,.refl _ _ _,.one _ _ _⟩
 rintro i R ⟨hi,hS,r⟩
 refine have B:=hS.len;have hBR:=K8 hB hS.perm;q' 5 O<|c' (X.lss O O) (fun t=>?_) fun t=>?_
 ·refine U 14 O ?_
  refine S5 (fun(j:Nat) (R:List Span)=>j) (fun j R=>[A5 (v) 23 (R)]) (fun j R=>[(0,v),(1,J a),(2,J b),(3,Fc fc),(8,J i),(9,J j)]) (fun j R=>InsS Span.Lo L R a b i j) i R ?_ ?_
  ·exact Mf hS r (by omega)
  rintro j R g
  try dsimp only at g
  refine have f:=g;have C:=f.seg.len;have D:=f.bd;have hBR:=K8 hB f.seg.perm;q' 2 O<|B9 17 [] []<|U' 2 O<|C' O O (X.gtr O O) (fun w=>?_) fun w=>?_
  ·refine U' 4 O<|Z O O (A9 0 j)<|Z O O (A.fs 0 (j) 0 [J (((gt R j)).Lo),J (((gt R j)).Hi)] O O O O)<|U' 3 O<|Z O O (A9 0 (j-1))<|Z O O (A.fs 0 (j-1) 0 [J (((gt R (j-1))).Lo),J (((gt R (j-1))).Hi)] O O O O)<|Z O O (E1 hC.1 rfl rfl (hC.2.1 _ (gt R j) (gt R (j-1))))<|C' O O (X.lss O O) (fun x=>?_) fun x=>?_
   ·refine U' 1 O<|V' 6 O<|B9 18 [15,17] [15,17,100004]<|U' 4 O<|J2 O O O (fun _ _ o=>(X.sub rfl rfl (by omega) (by omega))) (by decide)<|U' 3 O<|Z O O (A9 0 (j-1))<|Z O O (A.fs 0 (j-1) 0 [J (((gt R (j-1))).Lo),J (((gt R (j-1))).Hi)] O O O O)<|U' 2 O<|Z O O (A9 0 j)<|Z O O (A.fs 0 (j) 0 [J (((gt R j)).Lo),J (((gt R j)).Hi)] O O O O)<|Z O O (A9 0 j)<|B4 O O O O (D3 (k:=0) (i:=j) (off:=0) (us:=[J (((gt R (j-1))).Lo),J (((gt R (j-1))).Hi)]) (gt R (j-1)) sizeOf23 rfl rfl rfl rfl (O' _) rfl (by first|omega|(simp;omega)|simp) rfl rfl (A4 rfl (A4 rfl C6)))<|Z O O (A9 0 (j-1))<|B4 O O O O (D3 (k:=0) (i:=j-1) (off:=0) (us:=[J (((gt R j)).Lo),J (((gt R j)).Hi)]) (gt R j) sizeOf23 rfl rfl rfl rfl (O' _) rfl (by first|omega|(simp;omega)|simp) rfl rfl (A4 rfl (A4 rfl C6)))<|V' 8 O ?_
    obtain⟨n,l⟩:∃qq__:Nat,(↑j-1:Int)=(qq__:Int):=⟨(↑j-1:Int).toNat,(by omega)⟩
    rw[l]
    obtain rfl:n=j-1:=(by omega)
    exact K2 (j-1) ((R.set j (gt R (j-1))).set (j-1) (gt R j))<|OX f hbl (by omega) ((hC.cl hBR).1 ‹_›)
   refine U' 1 O<|V' 8 O ?_
   have c:=Ia f (fun y d=>by first|omega|(have h1_:=(hC.cl hBR).2 d;contradiction))
   exact q' 6 O<|K2 (i+1) R<|⟨by omega,c.1,c.2⟩
  refine U' 14 O<|V' 8 O ?_
  have c:=Ia f (fun y d=>by first|omega|(have h1_:=(hC.cl hBR).2 d;contradiction))
  exact q' 6 O<|K2 (i+1) R<|⟨by omega,c.1,c.2⟩
 exact U 7 O<|D0 O<|I2<|⟨rfl,_,rfl,hS,fun p q h1_ h2_ z=>r p q h1_ h2_ (by omega)⟩
theorem A2x(m:Mem)(hL:L.length≤4000000000)(hB:Cz L)(hC:CmpOk fc cf)(hza:za=a)(hzb:zb=b)(hab:a≤b)(hbl:b≤L.length):Mut prog 268 #[v,J za,J zb,Fc fc] m [A5 v 23 L] (fun _ Es u=>u= .tuple #[]∧∃R,Es=[A5 v 23 R]∧Seg L R a b):=by
 subst hza
 subst hzb
 refine G3 func268 O ntmps268 fun c=>q' 14 O ?_
 refine Di (fun(i:Int) (j:Int) (R:List Span)=>(j-i).toNat) (fun i j R=>[A5 (v) 23 (R)]) (fun i j R=>[(0,v),(8,J i),(9,J j)]) (fun i j R=>(a:Int)≤i∧j<b∧Seg L R a b) (↑a) (↑b-1) L ?_ ?_
 ·exact⟨by omega,by omega,.refl _ _ _⟩
 rintro i j R ⟨hi,g,hS⟩
 refine have f:=hS.len;q' 5 O<|c' (X.lss O O) (fun d=>?_) fun d=>?_
 ·exact U 7 O<|B9 16 [13,15] [13,15]<|U' 6 O<|Z O O (P1 (k:=0) runUnderlying28 sizeOf23 rfl rfl rfl (by first|omega|(simp;omega)|simp) (by first|omega|(simp;omega)|simp))<|Z O O (A.fs 0 ((j:Int).toNat) 0 [J (((gt R ((j:Int).toNat))).Lo),J (((gt R ((j:Int).toNat))).Hi)] O O O O)<|U' 2 O<|Z O O (P1 (k:=0) runUnderlying28 sizeOf23 rfl rfl rfl (by first|omega|(simp;omega)|simp) (by first|omega|(simp;omega)|simp))<|Z O O (A.fs 0 ((i:Int).toNat) 0 [J (((gt R ((i:Int).toNat))).Lo),J (((gt R ((i:Int).toNat))).Hi)] O O O O)<|Z O O (P1 (k:=0) runUnderlying28 sizeOf23 rfl rfl rfl (by first|omega|(simp;omega)|simp) (by first|omega|(simp;omega)|simp))<|B4 O O O O (D3 (k:=0) (i:=(i:Int).toNat) (off:=0) (us:=[J (((gt R ((j:Int).toNat))).Lo),J (((gt R ((j:Int).toNat))).Hi)]) (gt R ((j:Int).toNat)) sizeOf23 rfl rfl rfl rfl (O' _) rfl (by first|omega|(simp;omega)|simp) rfl rfl (A4 rfl (A4 rfl C6)))<|Z O O (P1 (k:=0) runUnderlying28 sizeOf23 rfl rfl rfl (by first|omega|(simp;omega)|simp) (by first|omega|(simp;omega)|simp))<|B4 O O O O (D3 (k:=0) (i:=(j:Int).toNat) (off:=0) (us:=[J (((gt R ((i:Int).toNat))).Lo),J (((gt R ((i:Int).toNat))).Hi)]) (gt R ((i:Int).toNat)) sizeOf23 rfl rfl rfl rfl (O' _) rfl (by first|omega|(simp;omega)|simp) rfl rfl (A4 rfl (A4 rfl C6)))<|V' 15 O<|O7 (i+1) (j-1) ((R.set ((i:Int).toNat) (gt R ((j:Int).toNat))).set ((j:Int).toNat) (gt R ((i:Int).toNat)))<|⟨by omega,by omega,hS.tsw (by omega) (by omega) (by omega)⟩
 exact U 7 O<|D0 O<|I2<|⟨rfl,_,rfl,hS⟩
theorem EY{G:Prop}(h:G:=by first|omega|(have h0_:(gt R (fst+(2*r+1))).Lo≤(gt R (fst+r)).Lo:=TI.1 (fun h_=>absurd ((hC.cl hBR (i:=fst+r) (j:=fst+(2*r+1))).2 h_) ‹_›);rcases hd1_ with rfl|rfl <;> first|exact h0_|omega|exact TX (TI.1 (fun h_=>absurd ((hC.cl hBR (i:=fst+(2*r+1)) (j:=fst+(2*r+1)+1)).2 h_) ‹_›)) h0_)|(have h0_:(gt R (fst+(2*r+1+1))).Lo≤(gt R (fst+r)).Lo:=TI.1 (fun h_=>absurd ((hC.cl hBR (i:=fst+r) (j:=fst+(2*r+1+1))).2 h_) ‹_›);rcases hd1_ with rfl|rfl <;> first|exact h0_|omega|exact TX (TW ((hC.cl hBR (i:=fst+(2*r+1)) (j:=fst+(2*r+1)+1)).1 ‹_›)) h0_)):G:=h
theorem A2c(m:Mem)(hL:L.length≤4000000000)(hB:Cz L)(hC:CmpOk fc cf){lo hi fst:Nat}{zlo zhi zfst:Int}(hzlo:zlo=lo)(hzhi:zhi=hi)(hzfst:zfst=fst)(hlo:lo≤4000000000)(hbl:fst+hi≤L.length)(hH:Hp Span.Lo L fst (lo+1) hi):Mut prog 305 #[v,J zlo,J zhi,J zfst,Fc fc] m [A5 v 23 L] (fun _ Es u=>u= .tuple #[]∧∃R,Es=[A5 v 23 R]∧Seg L R fst (fst+hi)∧Hp Span.Lo R fst lo hi):=by
 subst hzlo
 subst hzhi
 subst hzfst
 refine G3 func305 O ntmps305 fun o=>q' 7 O ?_
 refine S5 (fun(r:Nat) (R:List Span)=>hi-r) (fun r R=>[A5 (v) 23 (R)]) (fun r R=>[(0,v),(2,J hi),(3,J fst),(4,Fc fc),(10,J r)]) (fun r R=>r≤4000000000∧Seg L R fst (fst+hi)∧HpX Span.Lo R fst lo hi r) lo L ?_ ?_
 ·exact⟨by omega,.refl _ _ _,A6v hH⟩
 rintro r R ⟨z,hS,hX⟩
 refine have y:=hS.len;have hBR:=K8 hB hS.perm;q' 4 O<|y' (X.mul rfl rfl (by omega) (by omega))<|U 9 O<|c' (X.geq O O) (fun p=>?_) fun p=>?_
 ·refine U 8 O<|D0 O<|I2 ?_
  refine⟨rfl,_,rfl,hS,JZ hX (fun l hd1_ a=>?_)⟩
  exact EY
 refine U 7 O<|B9 22 [] []<|U' 3 O<|C' O O (X.lss O O) (fun q=>?_) fun q=>?_
 ·refine U' 6 O<|Z O O (A9 0 (fst+((2*r)+1)))<|Z O O (A.fs 0 (fst+((2*r)+1)) 0 [J (((gt R (fst+((2*r)+1)))).Lo),J (((gt R (fst+((2*r)+1)))).Hi)] O O O O)<|U' 5 O<|Z O O (A9 0 ((fst+((2*r)+1))+1))<|Z O O (A.fs 0 ((fst+((2*r)+1))+1) 0 [J (((gt R ((fst+((2*r)+1))+1))).Lo),J (((gt R ((fst+((2*r)+1))+1))).Hi)] O O O O)<|Z O O (E1 hC.1 rfl rfl (hC.2.1 _ (gt R (fst+((2*r)+1))) (gt R ((fst+((2*r)+1))+1))))<|C' O O (X.lss O O) (fun s=>?_) fun s=>?_
  ·refine U' 1 O<|V' 10 O<|B9 16 [] []<|U' 5 O<|Z O O (A9 0 (fst+r))<|Z O O (A.fs 0 (fst+r) 0 [J (((gt R (fst+r))).Lo),J (((gt R (fst+r))).Hi)] O O O O)<|U' 4 O<|Z O O (A9 0 (fst+(((2*r)+1)+1)))<|Z O O (A.fs 0 (fst+(((2*r)+1)+1)) 0 [J (((gt R (fst+(((2*r)+1)+1)))).Lo),J (((gt R (fst+(((2*r)+1)+1)))).Hi)] O O O O)<|Z O O (E1 hC.1 rfl rfl (hC.2.1 _ (gt R (fst+r)) (gt R (fst+(((2*r)+1)+1)))))<|C' O O (X.lss O O) (fun t=>?_) fun t=>?_
   ·refine U' 1 O<|V' 5 O<|B9 24 [21,23] [21,23,100007]<|U' 7 O<|J2 O O O (fun _ _ g=>(X.add rfl rfl (by omega) (by omega))) (by decide)<|U' 4 O<|Z O O (A9 0 (fst+(((2*r)+1)+1)))<|Z O O (A.fs 0 (fst+(((2*r)+1)+1)) 0 [J (((gt R (fst+(((2*r)+1)+1)))).Lo),J (((gt R (fst+(((2*r)+1)+1)))).Hi)] O O O O)<|U' 4 O<|Z O O (A9 0 (fst+r))<|Z O O (A.fs 0 (fst+r) 0 [J (((gt R (fst+r))).Lo),J (((gt R (fst+r))).Hi)] O O O O)<|Z O O (A9 0 (fst+r))<|B4 O O O O (D3 (k:=0) (i:=fst+r) (off:=0) (us:=[J (((gt R (fst+(((2*r)+1)+1)))).Lo),J (((gt R (fst+(((2*r)+1)+1)))).Hi)]) (gt R (fst+(((2*r)+1)+1))) sizeOf23 rfl rfl rfl rfl (O' _) rfl (by first|omega|(simp;omega)|simp) rfl rfl (A4 rfl (A4 rfl C6)))<|Z O O (A9 0 (fst+(((2*r)+1)+1)))<|B4 O O O O (D3 (k:=0) (i:=fst+(((2*r)+1)+1)) (off:=0) (us:=[J (((gt R (fst+r))).Lo),J (((gt R (fst+r))).Hi)]) (gt R (fst+r)) sizeOf23 rfl rfl rfl rfl (O' _) rfl (by first|omega|(simp;omega)|simp) rfl rfl (A4 rfl (A4 rfl C6)))<|V' 7 O ?_
    obtain⟨f,d⟩:∃qq__:Nat,(((2*↑r)+1)+1:Int)=(qq__:Int):=⟨(((2*↑r)+1)+1:Int).toNat,(by omega)⟩
    rw[d]
    obtain rfl:f=((2*r)+1)+1:=(by omega)
    refine K2 (((2*r)+1)+1) ((R.set (fst+r) (gt R (fst+(((2*r)+1)+1)))).set (fst+(((2*r)+1)+1)) (gt R (fst+r))) ?_
    refine⟨by omega,hS.tsw (by omega) (by omega) (by omega),?_⟩
    have b:=(hC.cl hBR (i:=fst+r) (j:=fst+(((2*r)+1)+1))).1 ‹_›
    refine LI (c:=((2*r)+1)+1) hX (by omega) (by omega) (by omega) b (fun l hd1_ a=>?_)
    rcases hd1_ with rfl|rfl <;> first|exact Si _|omega|exact TW ((hC.cl hBR (i:=fst+(2*r+1)) (j:=fst+(2*r+1)+1)).1 ‹_›)|exact TI.1 (fun n=>absurd ((hC.cl hBR (i:=fst+(2*r+1)) (j:=fst+(2*r+1)+1)).2 n) ‹_›)
   refine U' 1 O<|V' 7 O<|E9 O<|I2 ?_
   refine⟨rfl,_,rfl,hS,JZ hX (fun l hd1_ a=>?_)⟩
   exact EY
  refine U' 1 O<|V' 6 O<|B9 16 [] []<|U' 5 O<|Z O O (A9 0 (fst+r))<|Z O O (A.fs 0 (fst+r) 0 [J (((gt R (fst+r))).Lo),J (((gt R (fst+r))).Hi)] O O O O)<|U' 4 O<|Z O O (A9 0 (fst+((2*r)+1)))<|Z O O (A.fs 0 (fst+((2*r)+1)) 0 [J (((gt R (fst+((2*r)+1)))).Lo),J (((gt R (fst+((2*r)+1)))).Hi)] O O O O)<|Z O O (E1 hC.1 rfl rfl (hC.2.1 _ (gt R (fst+r)) (gt R (fst+((2*r)+1)))))<|C' O O (X.lss O O) (fun w=>?_) fun w=>?_
  ·refine U' 1 O<|V' 5 O<|B9 24 [21,23] [21,23,100007]<|U' 7 O<|J2 O O O (fun _ _ g=>(X.add rfl rfl (by omega) (by omega))) (by decide)<|U' 4 O<|Z O O (A9 0 (fst+((2*r)+1)))<|Z O O (A.fs 0 (fst+((2*r)+1)) 0 [J (((gt R (fst+((2*r)+1)))).Lo),J (((gt R (fst+((2*r)+1)))).Hi)] O O O O)<|U' 4 O<|Z O O (A9 0 (fst+r))<|Z O O (A.fs 0 (fst+r) 0 [J (((gt R (fst+r))).Lo),J (((gt R (fst+r))).Hi)] O O O O)<|Z O O (A9 0 (fst+r))<|B4 O O O O (D3 (k:=0) (i:=fst+r) (off:=0) (us:=[J (((gt R (fst+((2*r)+1)))).Lo),J (((gt R (fst+((2*r)+1)))).Hi)]) (gt R (fst+((2*r)+1))) sizeOf23 rfl rfl rfl rfl (O' _) rfl (by first|omega|(simp;omega)|simp) rfl rfl (A4 rfl (A4 rfl C6)))<|Z O O (A9 0 (fst+((2*r)+1)))<|B4 O O O O (D3 (k:=0) (i:=fst+((2*r)+1)) (off:=0) (us:=[J (((gt R (fst+r))).Lo),J (((gt R (fst+r))).Hi)]) (gt R (fst+r)) sizeOf23 rfl rfl rfl rfl (O' _) rfl (by first|omega|(simp;omega)|simp) rfl rfl (A4 rfl (A4 rfl C6)))<|V' 7 O ?_
   obtain⟨f,d⟩:∃qq__:Nat,((2*↑r)+1:Int)=(qq__:Int):=⟨((2*↑r)+1:Int).toNat,(by omega)⟩
   rw[d]
   obtain rfl:f=(2*r)+1:=(by omega)
   refine K2 ((2*r)+1) ((R.set (fst+r) (gt R (fst+((2*r)+1)))).set (fst+((2*r)+1)) (gt R (fst+r))) ?_
   refine⟨by omega,hS.tsw (by omega) (by omega) (by omega),?_⟩
   have b:=(hC.cl hBR (i:=fst+r) (j:=fst+((2*r)+1))).1 ‹_›
   refine LI (c:=(2*r)+1) hX (by omega) (by omega) (by omega) b (fun l hd1_ a=>?_)
   rcases hd1_ with rfl|rfl <;> first|exact Si _|omega|exact TW ((hC.cl hBR (i:=fst+(2*r+1)) (j:=fst+(2*r+1)+1)).1 ‹_›)|exact TI.1 (fun n=>absurd ((hC.cl hBR (i:=fst+(2*r+1)) (j:=fst+(2*r+1)+1)).2 n) ‹_›)
  refine U' 1 O<|V' 7 O<|E9 O<|I2 ?_
  refine⟨rfl,_,rfl,hS,JZ hX (fun l hd1_ a=>?_)⟩
  exact EY
 refine U' 18 O<|V' 6 O<|B9 16 [] []<|U' 5 O<|Z O O (A9 0 (fst+r))<|Z O O (A.fs 0 (fst+r) 0 [J (((gt R (fst+r))).Lo),J (((gt R (fst+r))).Hi)] O O O O)<|U' 4 O<|Z O O (A9 0 (fst+((2*r)+1)))<|Z O O (A.fs 0 (fst+((2*r)+1)) 0 [J (((gt R (fst+((2*r)+1)))).Lo),J (((gt R (fst+((2*r)+1)))).Hi)] O O O O)<|Z O O (E1 hC.1 rfl rfl (hC.2.1 _ (gt R (fst+r)) (gt R (fst+((2*r)+1)))))<|C' O O (X.lss O O) (fun x=>?_) fun x=>?_
 ·refine U' 1 O<|V' 5 O<|B9 24 [21,23] [21,23,100007]<|U' 7 O<|J2 O O O (fun _ _ g=>(X.add rfl rfl (by omega) (by omega))) (by decide)<|U' 4 O<|Z O O (A9 0 (fst+((2*r)+1)))<|Z O O (A.fs 0 (fst+((2*r)+1)) 0 [J (((gt R (fst+((2*r)+1)))).Lo),J (((gt R (fst+((2*r)+1)))).Hi)] O O O O)<|U' 4 O<|Z O O (A9 0 (fst+r))<|Z O O (A.fs 0 (fst+r) 0 [J (((gt R (fst+r))).Lo),J (((gt R (fst+r))).Hi)] O O O O)<|Z O O (A9 0 (fst+r))<|B4 O O O O (D3 (k:=0) (i:=fst+r) (off:=0) (us:=[J (((gt R (fst+((2*r)+1)))).Lo),J (((gt R (fst+((2*r)+1)))).Hi)]) (gt R (fst+((2*r)+1))) sizeOf23 rfl rfl rfl rfl (O' _) rfl (by first|omega|(simp;omega)|simp) rfl rfl (A4 rfl (A4 rfl C6)))<|Z O O (A9 0 (fst+((2*r)+1)))<|B4 O O O O (D3 (k:=0) (i:=fst+((2*r)+1)) (off:=0) (us:=[J (((gt R (fst+r))).Lo),J (((gt R (fst+r))).Hi)]) (gt R (fst+r)) sizeOf23 rfl rfl rfl rfl (O' _) rfl (by first|omega|(simp;omega)|simp) rfl rfl (A4 rfl (A4 rfl C6)))<|V' 7 O ?_
  obtain⟨f,d⟩:∃qq__:Nat,((2*↑r)+1:Int)=(qq__:Int):=⟨((2*↑r)+1:Int).toNat,(by omega)⟩
  rw[d]
  obtain rfl:f=(2*r)+1:=(by omega)
  refine K2 ((2*r)+1) ((R.set (fst+r) (gt R (fst+((2*r)+1)))).set (fst+((2*r)+1)) (gt R (fst+r))) ?_
  refine⟨by omega,hS.tsw (by omega) (by omega) (by omega),?_⟩
  have b:=(hC.cl hBR (i:=fst+r) (j:=fst+((2*r)+1))).1 ‹_›
  refine LI (c:=(2*r)+1) hX (by omega) (by omega) (by omega) b (fun l hd1_ a=>?_)
  rcases hd1_ with rfl|rfl <;> first|exact Si _|omega|exact TW ((hC.cl hBR (i:=fst+(2*r+1)) (j:=fst+(2*r+1)+1)).1 ‹_›)|exact TI.1 (fun n=>absurd ((hC.cl hBR (i:=fst+(2*r+1)) (j:=fst+(2*r+1)+1)).2 n) ‹_›)
 refine U' 1 O<|V' 7 O<|E9 O<|I2 ?_
 refine⟨rfl,_,rfl,hS,JZ hX (fun l hd1_ a=>?_)⟩
 exact EY
theorem B1Q(m:Mem)(hL:L.length≤4000000000)(hB:Cz L)(hC:CmpOk fc cf)(hza:za=a)(hzb:zb=b)(hab:a<b)(hbl:b≤L.length):Mut prog 265 #[v,J za,J zb,Fc fc] m [A5 v 23 L] (fun _ Es u=>u= .tuple #[]∧∃R,Es=[A5 v 23 R]∧Seg L R a b∧Srt Span.Lo R a b):=by
 subst hza
 subst hzb
 have z:a+(b-a)=b:=(by omega)
 refine G3 func265 O ntmps265 fun G=>q' 24 O<|y' (X.quo rfl rfl (by omega) (by omega) (by omega))<|U 4 O ?_
 rw[show((↑b-↑a-1)/2:Int)=(((b-a-1)/2+1:Nat):Int)-1 by omega]
 refine S5 (fun(i:Nat) (R:List Span)=>i) (fun i R=>[A5 (v) 23 (R)]) (fun i R=>[(0,v),(3,Fc fc),(8,J a),(9,J 0),(10,J (↑b-↑a)),(11,J (↑i-1))]) (fun i R=>i≤b+1∧Seg L R a (a+(b-a))∧Hp Span.Lo R a i (b-a)) ((b-a-1)/2+1) L ?_ ?_
 ·exact⟨by omega,.refl _ _ _,B2V _ _ (by omega)⟩
 rintro i R ⟨hi,hS,t⟩
 refine N5 (fun d=>?_)
 refine have B:=hS.len;have hBR:=K8 hB hS.perm;q' 4 O<|c' (X.geq O O) (fun H=>?_) fun H=>?_
 ·refine U 13 O ?_
  refine C5 (C8 (A:=[]) call305 rfl (.refl _) (A2c _ (L:=R) (by omega) (by first|assumption|exact Cx ‹_› _ _) hC (lo:=i-1) (hi:=b-a) (fst:=a) (by omega) (by omega) (by omega) (by omega) (by omega) (by first|exact c.2.1|(rw[show i-1+1=i by omega];exact t)|(simp only[show(↑i-1:Int).toNat+1=i by omega];exact t)))) (by decide) (fun N y I r n=>?_)
  obtain⟨rfl,R5,rfl,w⟩:=n
  refine U 9 O ?_
  rw[show((↑i:Int)-1-1)=((i-1:Nat):Int)-1 by omega]
  exact G9 d r<|K2 (i-1) R5<|⟨by omega,hS.trans w.1,w.2⟩
 refine U 16 O ?_
 rw[show(↑b-↑a-1:Int)=((b-a:Nat):Int)-1 by omega]
 refine S5 (fun(i:Nat) (R:List Span)=>i) (fun i R=>[A5 (v) 23 (R)]) (fun i R=>[(0,v),(3,Fc fc),(8,J a),(9,J 0),(12,J (↑i-1))]) (fun i R=>i≤b-a∧HpS Span.Lo L R a i (b-a)) (b-a) R ?_ ?_
 ·obtain rfl:i=0:=(by omega)
  exact⟨by omega,A4G hS t⟩
 rintro i R ⟨hi,hX⟩
 refine N5 (fun f=>?_)
 refine have B:=hX.seg.len;have hBR:=K8 hB hX.seg.perm;q' 4 O<|c' (X.geq O O) (fun K=>?_) fun K=>?_
 ·refine U 8 O<|B9 20 [17,19] [17,19,100005]<|U' 5 O<|J2 O O O (fun _ _ D=>(X.add rfl rfl (by omega) (by omega))) (by decide)<|U' 4 O<|Z O O (P1 (k:=0) runUnderlying28 sizeOf23 rfl rfl rfl (by first|omega|(simp;omega)|simp) (by first|omega|(simp;omega)|simp))<|Z O O (A.fs 0 ((↑a+(↑i-1):Int).toNat) 0 [J (((gt R ((↑a+(↑i-1):Int).toNat))).Lo),J (((gt R ((↑a+(↑i-1):Int).toNat))).Hi)] O O O O)<|U' 2 O<|Z O O (A9 0 a)<|Z O O (A.fs 0 (a) 0 [J (((gt R a)).Lo),J (((gt R a)).Hi)] O O O O)<|Z O O (A9 0 a)<|B4 O O O O (D3 (k:=0) (i:=a) (off:=0) (us:=[J (((gt R ((↑a+(↑i-1):Int).toNat))).Lo),J (((gt R ((↑a+(↑i-1):Int).toNat))).Hi)]) (gt R ((↑a+(↑i-1):Int).toNat)) sizeOf23 rfl rfl rfl rfl (O' _) rfl (by first|omega|(simp;omega)|simp) rfl rfl (A4 rfl (A4 rfl C6)))<|Z O O (P1 (k:=0) runUnderlying28 sizeOf23 rfl rfl rfl (by first|omega|(simp;omega)|simp) (by first|omega|(simp;omega)|simp))<|B4 O O O O (D3 (k:=0) (i:=(↑a+(↑i-1):Int).toNat) (off:=0) (us:=[J (((gt R a)).Lo),J (((gt R a)).Hi)]) (gt R a) sizeOf23 rfl rfl rfl rfl (O' _) rfl (by first|omega|(simp;omega)|simp) rfl rfl (A4 rfl (A4 rfl C6)))<|V' 1 O ?_
  obtain⟨R1,x⟩:∃qq__:List Span,qq__=(R.set a (gt R ((↑a+(↑i-1):Int).toNat))).set ((↑a+(↑i-1):Int).toNat) (gt R a):=⟨_,rfl⟩
  have c:Seg L R1 a (a+(b-a))∧Hp Span.Lo R1 a 1 (i-1)∧(∀p q,p<q→i-1≤q→q<b-a→(gt R1 (a+p)).Lo≤(gt R1 (a+q)).Lo):=(by rw[x,show(↑a+(↑i-1):Int).toNat=a+(i-1) by omega];exact A9j (s:=i-1) (by rw[show i-1+1=i by omega];exact hX) (by omega) (by omega))
  have C:((R.set a (gt R ((↑a+(↑i-1):Int).toNat))).set ((↑a+(↑i-1):Int).toNat) (gt R a))=R1:=x.symm
  rw[C]
  refine have E:=c.1.len;have F:=K8 hB c.1.perm;q' 6 O ?_
  refine C5 (C8 (A:=[]) call305 rfl (.refl _) (A2c _ (L:=R1) (by omega) (by first|assumption|exact Cx ‹_› _ _) hC (lo:=0) (hi:=i-1) (fst:=a) (by omega) (by omega) (by omega) (by omega) (by omega) (by first|exact c.2.1|(rw[show i-1+1=i by omega];exact t)|(simp only[show(↑i-1:Int).toNat+1=i by omega];exact t)))) (by decide) (fun M y I o n=>?_)
  obtain⟨rfl,R12,rfl,l⟩:=n
  refine U 9 O ?_
  rw[show((↑i:Int)-1-1)=((i-1:Nat):Int)-1 by omega]
  exact G9 f o<|K2 (i-1) R12<|⟨by omega,A8C (by omega) (by omega) c.1 c.2.2 l.1 l.2⟩
 refine U 7 O<|D0 O<|I2 ?_
 obtain rfl:i=0:=(by omega)
 have g:=B2Z hX
 rw[z]at g
 exact⟨rfl,_,rfl,g⟩
theorem A8k:CmpOk 149 Lp:=⟨call149,fun m a b=>B5p m _ a rfl _ b rfl,fun _ _ c d=>LU c d⟩
end Go.Proofs.T10
