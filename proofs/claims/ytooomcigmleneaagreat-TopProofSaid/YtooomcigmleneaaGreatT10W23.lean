import Derived.Test.YtooomcigmleneaaGreatT10W21
set_option linter.all false
namespace Go.Proofs.S10
open Tryz Go Go.Kx Go.Proofs.T10
set_option maxRecDepth 20000
theorem T2(m:Mem)(n:Int)(lo:Int)(hi:Int):Exact prog 170 #[J n,J lo,J hi] m (.bool (decide (lo≤n∧n≤hi))):=by
 refine D4 func170 O ntmps170 fun a=>q' 9 O<|c' (X.geq O O) (fun b=>?_) fun b=>?_
 ·refine U 12 O<|A0 O O<|A8 ?_
  first|exact D5 (by omega)|exact B2 (by omega)|exact D8 (by omega)
 refine U 9 O<|A0 O O<|A8 ?_
 first|exact D5 (by omega)|exact B2 (by omega)|exact D8 (by omega)
theorem DK{G:Prop}(h:G:=by first|exact B0 (by simp only[DF];rw[D' (by omega)])|exact B0 (by simp only[DF];rw[A' (by omega)])):G:=h
theorem KO(m:Mem)(cw:List Value)(w:Wind)(hw:Enc.rd m cw w):Exact prog 90 #[.agg cw.toArray] m (J (DF w)):=by
 obtain rfl:=hw
 refine D4 func90 O ntmps90 fun a=>q' 2 O<|o' O O fun d=>U 6 O<|f' O t'<|b' 0 O O O<|c' (X.call call170 rfl (T2 _ _ _ _)) (fun b=>?_) fun b=>?_
 ·refine U 3 O<|f' O t'<|U 1 O<|b' 0 O O O<|U 1 O<|c' (X.call call170 rfl (T2 _ _ _ _)) (fun c=>?_) fun c=>?_
  ·exact U 14 O<|A0 O O<|A8<|DK
  exact U 13 O<|A0 O O<|A8<|DK
 exact U 17 O<|A0 O O<|A8<|DK
theorem L8{G:Prop}(h:G:=by first|exact B2 (fun h=>by have:=h.2 k (by omega);unfold BQ at this;omega)|exact D8 ⟨fun h=>⟨by omega,fun j hj=>hall j (by omega)⟩,fun h=>by have:=h.1;omega⟩):G:=h
theorem Fi{G:Prop}(h:G:=by exact⟨by omega,fun j hj=>by rcases Sc.1 hj with h|h;exact hall j h;subst h;(unfold BQ;omega)⟩):G:=h
theorem JS(m:Mem)(vl:Value)(l:List Height)(hl:Sl m vl l):Exact prog 171 #[vl] m (.bool (decide (CA l))):=by
 refine have ll:=hl.le;D4 func171 O ntmps171 fun E=>q' 9 O<|l' hl O<|U 4 O ?_
 refine J4 (fun(k:Nat)=>l.length-k) (fun k=>[]) (fun k=>[(0,vl),(5,vl),(6,J l.length),(7,J k)]) (fun k=>k≤l.length∧(∀j,j<k→BQ l j)) 0 ?_ ?_
 ·exact⟨EF _,fun j F=>absurd F (R' _)⟩
 rintro k ⟨Q,hall⟩
 refine q' 2 O<|c' (X.lss O O) (fun G=>?_) fun G=>?_
 ·refine U 11 O<|x' k hl O O fun M d=>g' d O fun N g=>?_
  obtain rfl:=g
  refine n' zeroValue198 O fun P=>U 1 O<|w' 0 O O O<|U 3 O<|B9 43 [] []<|U' 1 O<|C' O O (X.eql O O) (fun H=>?_) fun H=>?_
  ·refine U' 1 O<|Z O O (A.f O)<|Z O O (A.b 0 O O O) ?_
   refine CM rfl rfl (X.neq rfl rfl) (by decide) (fun I=>?_) (fun I=>?_)
   ·exact U' 37 O<|V' 13 O<|A0 O O<|A8<|L8
   refine U' 3 O<|C' O O (X.gtr O O) (fun n=>?_) fun n=>?_
   ·refine U' 1 O<|Z O O (A.f O)<|Z O O (A.b 0 O O O)<|U' 3 O<|J0 O O (T9 (k-1) runUnderlying126 sizeOf198 rfl rfl hl (by omega) (by omega)) (by decide) fun K a=>Z O O (A.f O)<|Z O O (A.i O (En a))<|C' O O (X.leq O O) (fun o=>?_) fun o=>?_
    ·exact U' 23 O<|V' 13 O<|A0 O O<|A8<|L8
    refine U' 3 O<|Z O O (A.f O)<|Z O O (A.b 0 O O O)<|C' O O (X.gtr O O) (fun p=>?_) fun p=>?_
    ·exact U' 17 O<|V' 13 O<|A0 O O<|A8<|L8
    refine U' 2 O<|Z O O (A.f O)<|Z O O (A.f O)<|Z O O (A.b 0 O O O)<|Z O O (A.f O)<|Z O O (A.f O)<|Z O O (A.b 0 O O O)<|C' O O (X.call call170 rfl (T2 _ _ _ _)) (fun q=>?_) fun q=>?_
    ·refine U' 3 O<|Z O O (A.f O)<|Z O O (A.f O)<|Z O O (A.b 0 O O O)<|C' O O (X.gtr O O) (fun r=>?_) fun r=>?_
     ·exact U' 1 O<|V' 13 O<|A0 O O<|A8<|L8
     exact U' 1 O<|V' 10 O<|I6 (k+1)<|Fi
    exact U' 8 O<|V' 13 O<|A0 O O<|A8<|L8
   refine U' 13 O<|Z O O (A.f O)<|Z O O (A.b 0 O O O)<|C' O O (X.gtr O O) (fun s=>?_) fun s=>?_
   ·exact U' 17 O<|V' 13 O<|A0 O O<|A8<|L8
   refine U' 2 O<|Z O O (A.f O)<|Z O O (A.f O)<|Z O O (A.b 0 O O O)<|Z O O (A.f O)<|Z O O (A.f O)<|Z O O (A.b 0 O O O)<|C' O O (X.call call170 rfl (T2 _ _ _ _)) (fun t=>?_) fun t=>?_
   ·refine U' 3 O<|Z O O (A.f O)<|Z O O (A.f O)<|Z O O (A.b 0 O O O)<|C' O O (X.gtr O O) (fun u=>?_) fun u=>?_
    ·exact U' 1 O<|V' 13 O<|A0 O O<|A8<|L8
    exact U' 1 O<|V' 10 O<|I6 (k+1)<|Fi
   exact U' 8 O<|V' 13 O<|A0 O O<|A8<|L8
  refine U' 7 O<|C' O O (X.gtr O O) (fun v=>?_) fun v=>?_
  ·refine U' 1 O<|Z O O (A.f O)<|Z O O (A.b 0 O O O)<|U' 3 O<|J0 O O (T9 (k-1) runUnderlying126 sizeOf198 rfl rfl hl (by omega) (by omega)) (by decide) fun L c=>Z O O (A.f O)<|Z O O (A.i O (En c))<|C' O O (X.leq O O) (fun w=>?_) fun w=>?_
   ·exact U' 23 O<|V' 13 O<|A0 O O<|A8<|L8
   refine U' 3 O<|Z O O (A.f O)<|Z O O (A.b 0 O O O)<|C' O O (X.gtr O O) (fun x=>?_) fun x=>?_
   ·exact U' 17 O<|V' 13 O<|A0 O O<|A8<|L8
   refine U' 2 O<|Z O O (A.f O)<|Z O O (A.f O)<|Z O O (A.b 0 O O O)<|Z O O (A.f O)<|Z O O (A.f O)<|Z O O (A.b 0 O O O)<|C' O O (X.call call170 rfl (T2 _ _ _ _)) (fun y=>?_) fun y=>?_
   ·refine U' 3 O<|Z O O (A.f O)<|Z O O (A.f O)<|Z O O (A.b 0 O O O)<|C' O O (X.gtr O O) (fun z=>?_) fun z=>?_
    ·exact U' 1 O<|V' 13 O<|A0 O O<|A8<|L8
    exact U' 1 O<|V' 10 O<|I6 (k+1)<|Fi
   exact U' 8 O<|V' 13 O<|A0 O O<|A8<|L8
  refine U' 13 O<|Z O O (A.f O)<|Z O O (A.b 0 O O O)<|C' O O (X.gtr O O) (fun B=>?_) fun B=>?_
  ·exact U' 17 O<|V' 13 O<|A0 O O<|A8<|L8
  refine U' 2 O<|Z O O (A.f O)<|Z O O (A.f O)<|Z O O (A.b 0 O O O)<|Z O O (A.f O)<|Z O O (A.f O)<|Z O O (A.b 0 O O O)<|C' O O (X.call call170 rfl (T2 _ _ _ _)) (fun C=>?_) fun C=>?_
  ·refine U' 3 O<|Z O O (A.f O)<|Z O O (A.f O)<|Z O O (A.b 0 O O O)<|C' O O (X.gtr O O) (fun D=>?_) fun D=>?_
   ·exact U' 1 O<|V' 13 O<|A0 O O<|A8<|L8
   exact U' 1 O<|V' 10 O<|I6 (k+1)<|Fi
  exact U' 8 O<|V' 13 O<|A0 O O<|A8<|L8
 exact U 12 O<|l' hl O<|y' (X.call call170 rfl (T2 _ _ _ _))<|U 4 O<|A0 O O<|A8<|L8
theorem V4{G:Prop}(h:G:=by first|(have hc:=A4a (l:=l) (by omega);exact G4 (B0 (by rw[hc])) (B0 (by rw[hc])))|(have hbad:U8 l k=50:=(by unfold U8;rw[D' (by unfold N1;omega)]);have hc:=Fa (l:=l) (k:=k) (by omega) (by omega) hall (by omega);exact G4 (B0 (by rw[hc];exact hbad.symm)) (B0 (by rw[hc])))|(have hbad:U8 l k=50:=(by unfold U8;rw[D' (.inl ‹_›)]);have hc:=Fa (l:=l) (k:=k) (by omega) (by omega) hall (by omega);exact G4 (B0 (by rw[hc];exact hbad.symm)) (B0 (by rw[hc])))|(have hbad:U8 l k=51:=(by unfold U8;rw[A' (by unfold N1;omega),D' ‹_›]);have hc:=Fa (l:=l) (k:=k) (by omega) (by omega) hall (by omega);exact G4 (B0 (by rw[hc];exact hbad.symm)) (B0 (by rw[hc])))|(have hbad:U8 l k=51:=(by unfold U8;rw[A' (by unfold N1 at *; omega),D' ‹_›]);have hc:=Fa (l:=l) (k:=k) (by omega) (by omega) hall (by omega);exact G4 (B0 (by rw[hc];exact hbad.symm)) (B0 (by rw[hc])))|(have hc:=A5G (l:=l) (by omega) (fun j hj=>hall j (by omega));exact G4 (B0 (by rw[hc])) (B0 (by rw[hc])))):G:=h
theorem Mq{G:Prop}(h:G:=by exact⟨by omega,fun j hj=>by rcases Sc.1 hj with h|h;exact hall j h;subst h;(unfold U8;rw[A' (by unfold N1 at *; omega),A' (by simpa using ‹CA _›)])⟩):G:=h
theorem Kc(m:Mem)(vl:Value)(l:List Station)(hl:Sl m vl l):Exact prog 89 #[vl] m (.tuple #[J ((K3 l).1),J ((K3 l).2)]):=by
 refine have ll:=hl.le;D4 func89 O ntmps89 fun x=>q' 10 O<|l' hl O<|c' (X.gtr O O) (fun y=>?_) fun y=>?_
 ·exact U 11 O<|B7 O O O<|A8<|V4
 refine U 9 O<|l' hl O<|U 4 O ?_
 refine J4 (fun(k:Nat)=>l.length-k) (fun k=>[]) (fun k=>[(0,vl),(9,vl),(10,J l.length),(11,J k)]) (fun k=>k≤l.length∧(∀j,j<k→U8 l j=0)) 0 ?_ ?_
 ·exact⟨EF _,fun j z=>absurd z (R' _)⟩
 rintro k ⟨G,hall⟩
 refine q' 2 O<|c' (X.lss O O) (fun B=>?_) fun B=>?_
 ·refine U 11 O<|x' k hl O O fun E d=>g' d O fun F g=>?_
  obtain⟨H,rfl,a⟩:=g
  refine have w:=a.le;n' zeroValue128 O fun C=>U 1 O<|w' 0 O O O<|U 6 O<|f' O t'<|b' 0 O O O<|c' (X.call call170 rfl (T2 _ _ _ _)) (fun n=>?_) fun n=>?_
  ·refine U 6 O<|B9 14 [] []<|U' 1 O<|C' O O (X.gtr O O) (fun o=>?_) fun o=>?_
   ·refine U' 1 O<|Z O O (A.f O)<|Z O O (A.b 0 O O O)<|U' 3 O<|J0 O O (T9 (k-1) runUnderlying47 sizeOf128 rfl rfl hl (by omega) (by omega)) (by decide) fun D c=>Z O O (A.f O)<|Z O O (A.i O (RJ c))<|C' O O (X.leq O O) (fun p=>?_) fun p=>?_
    ·exact U' 2 O<|V' 19 O<|B7 O O O<|A8<|V4
    refine U' 2 O<|V' 4 O<|f' O t'<|b' 0 O O O<|c' (X.call call170 rfl (T2 _ _ _ _)) (fun q=>?_) fun q=>?_
    ·refine U 6 O<|f' O t'<|b' 0 O O O<|c' (X.call call170 rfl (T2 _ _ _ _)) (fun r=>?_) fun r=>?_
     ·refine U 7 O<|f' O t'<|b' 0 O O O<|c' (X.call call171 rfl (JS _ _ _ a)) (fun s=>?_) fun s=>?_
      ·exact U 14 O<|I6 (k+1)<|Mq
      exact U 19 O<|B7 O O O<|A8<|V4
     exact U 19 O<|B7 O O O<|A8<|V4
    exact U 22 O<|B7 O O O<|A8<|V4
   refine U' 12 O<|V' 4 O<|f' O t'<|b' 0 O O O<|c' (X.call call170 rfl (T2 _ _ _ _)) (fun t=>?_) fun t=>?_
   ·refine U 6 O<|f' O t'<|b' 0 O O O<|c' (X.call call170 rfl (T2 _ _ _ _)) (fun u=>?_) fun u=>?_
    ·refine U 7 O<|f' O t'<|b' 0 O O O<|c' (X.call call171 rfl (JS _ _ _ a)) (fun v=>?_) fun v=>?_
     ·exact U 14 O<|I6 (k+1)<|Mq
     exact U 19 O<|B7 O O O<|A8<|V4
    exact U 19 O<|B7 O O O<|A8<|V4
   exact U 22 O<|B7 O O O<|A8<|V4
  exact U 22 O<|B7 O O O<|A8<|V4
 exact U 16 O<|B7 O O O<|A8<|V4
theorem Kq{G:Prop}(h:G:=by first|exact B0 (Mh (by omega) hall ‹_›).symm|exact B0 (Ph (fun j hj=>hall j (by omega))).symm):G:=h
theorem A9A(m:Mem)(vl:Value)(l:List Station)(hl:Sl m vl l):Exact prog 292 #[vl] m (J (Er l)):=by
 refine have ll:=hl.le;D4 func292 O ntmps292 fun p=>q' 9 O<|l' hl O<|U 4 O ?_
 refine J4 (fun(k:Nat)=>l.length-k) (fun k=>[]) (fun k=>[(7,vl),(8,J l.length),(9,J k)]) (fun k=>k≤l.length∧(∀j,j<k→CU (gt l j)=0)) 0 ?_ ?_
 ·exact⟨EF _,fun j f=>absurd f (R' _)⟩
 rintro k ⟨y,hall⟩
 refine N5 (fun a=>?_)
 refine q' 2 O<|c' (X.lss O O) (fun q=>?_) fun q=>?_
 ·refine U 10 O<|x' k hl O O fun w g=>g' g O fun x n=>?_
  obtain⟨v,rfl,d⟩:=n
  refine have u:=d.le;n' zeroValue128 O fun r=>w' 0 O O O<|U 4 O<|a' 0 O O ?_
  refine C0 (M5 (α:=Station) (vals:=[.agg [J ((gt l k).ID),J ((gt l k).X),J ((gt l k).Y),v].toArray]) (L:=[gt l k]) A2A rfl (.cons rfl ⟨_,rfl,d⟩ .nil) rfl rfl) (by decide) (fun s t b c=>?_)
  refine y' (X.call call89 rfl (Kc _ _ _ c))<|U 10 O<|e' (X.neq O O) (fun o=>?_) fun o=>?_
  ·exact U 15 O<|A0 O O<|A8<|Kq
  exact U 11 O<|G9 a b<|I6 (k+1)<|⟨by omega,fun j f=>by rcases Sc.1 f with h|h;exact hall j h;subst h;(simpa[CU]using ‹(K3 _).1=0›)⟩
 exact U 15 O<|A0 O O<|A8<|Kq
def A5u(e:Int):Prop:=e=0
instance(e:Int):Decidable (A5u e):=by unfold A5u;exact inferInstance
def B0E(e:Int):Int:=if e=3 then 0 else e
theorem A6X(m:Mem)(cs:List Value)(s:Station)(hs:Enc.rd m cs s)(id:Int):Exact prog 104 #[.agg cs.toArray,J id] m (J (V7 s.ID id)):=by
 obtain⟨f,rfl,a⟩:=hs
 refine have c:=a.le;D4 func104 O ntmps104 fun b=>q' 2 O<|o' O O fun d=>U 5 O<|f' O t'<|b' 0 O O O<|U 1 O<|y' (X.call call88 rfl (BM _ _ _))<|U 4 O<|A0 O O<|A8 ?_
 first|rfl|(simp[*];done)
theorem A6h(m:Mem)(cx:List Value)(x:Station)(hx:Enc.rd m cx x){pc pk:Addr}{id:Int}(hcc:Cells m pc [Fc 104])(hck:At m pk id):Exact prog 182 #[.agg cx.toArray,.pointer (some pc),.pointer (some pk)] m (.bool (decide (x.ID=id))):=by
 obtain⟨f,rfl,a⟩:=hx
 exact have c:=a.le;D4 func182 O ntmps182 fun b=>q' 2 O<|o' O O fun d=>U 5 O<|y' (J9 isAgg228 rfl hcc)<|a' 0 O O<|i' hck O<|y' (E1 call104 rfl rfl (A6X _ _ x ⟨_,rfl,a⟩ _))<|U 5 O<|A0 O O<|A8<|D8 A6u
def Lw(l:List Station)(id:Int):Int:=U3 (fun i=>(gt l i).ID=id) l.length
def Cl(l:List Station)(id:Int):Int×Int:=if(K3 l).1≠0 then(0,(K3 l).1)else if Lw l id<0 then(0,50)else(Lw l id,0)
theorem A1v{l:List Station}{id:Int}(h:(K3 l).1≠0):Cl l id=(0,(K3 l).1):=D' h
theorem Rk{l:List Station}{id:Int}(h:¬(K3 l).1≠0)(h1:Lw l id<0):Cl l id=(0,50):=by rw[Cl,A' h,D' h1]
theorem A2r{l:List Station}{id:Int}(h:¬(K3 l).1≠0)(h1:¬Lw l id<0):Cl l id=(Lw l id,0):=by rw[Cl,A' h,A' h1]
theorem Ky{G:Prop}(h:G:=by first|exact B0 (W8 (p:=fun i=>(gt l i).ID=id) (by omega) hall ‹_›).symm|exact B0 (W3 (p:=fun i=>(gt l i).ID=id) (fun j hj=>hall j (by omega))).symm):G:=h
theorem A8I(m:Mem){v:Value}{l:List Station}(hl:Sl m v l){pc pk:Addr}{id:Int}(hcc:Cells m pc [Fc 104])(hck:At m pk id):Exact prog 181 #[v,.func (.func 182) #[] #[.pointer (some pc),.pointer (some pk)]] m (J (Lw l id)):=by
 refine have o:=hl.le;D4 func181 O ntmps181 fun g=>q' 9 O<|l' hl O<|U 4 O ?_
 refine J4 (fun(k:Nat)=>l.length-k) (fun k=>[]) (fun k=>[(0,v),(1,.func (.func 182) #[] [.pointer (some pc),.pointer (some (pk))].toArray),(7,J l.length),(8,J k)]) (fun k=>k≤l.length∧(∀j,j<k→¬(gt l j).ID=id)) 0 ?_ ?_
 ·exact⟨EF _,fun j b=>absurd b (R' _)⟩
 rintro k ⟨s,hall⟩
 refine q' 2 O<|c' (X.lss O O) (fun n=>?_) fun n=>?_
 ·refine U 19 O<|x' k hl O O fun q c=>g' c O fun r d=>?_
  obtain⟨t,rfl,a⟩:=d
  refine have p:=a.le;c' (E1 call182 rfl rfl (A6h _ _ (gt l k) ⟨_,rfl,a⟩ hcc hck)) (fun f=>?_) fun f=>?_
  ·exact U 15 O<|A0 O O<|A8<|Ky
  exact U 11 O<|I6 (k+1)<|⟨by omega,fun j b=>by rcases Sc.1 b with h_|h_;exact hall j h_;subst h_;assumption⟩
 exact U 15 O<|A0 O O<|A8<|Ky
theorem A5p(m:Mem){v:Value}{l:List Station}(hl:Sl m v l)(id:Int):Exact prog 103 #[v,J id,Fc 104] m (J (Lw l id)):=by
 refine D4 func103 O ntmps103 fun n=>q' 2 O<|o' O O fun o=>o' O O fun q=>U 4 O ?_
 refine M6 0 rfl rfl (fun r c d=>?_)
 replace hl:=hl.mono c
 have b:=d
 refine M6 0 rfl rfl (fun p a f=>?_)
 replace hl:=hl.mono a
 replace b:=b.mono a
 have g:At p ⟨o,0,none⟩ id:=⟨_,rfl,f⟩
 refine q' 2 O<|y' (X.makeFunc (by intro x k;simp at k;rcases k with rfl|rfl;all_goals exact⟨_,rfl⟩) rfl)<|y' (X.call call181 rfl (A8I _ hl b g))<|U 10 O<|A0 O O<|A8 ?_
 rfl
theorem DL{G:Prop}(h:G:=by first|exact G4 (B0 (by rw[A1v (by omega)])) (B0 (by rw[A1v (by omega)]))|exact G4 (B0 (by rw[A2r (by omega) (by omega)])) (B0 (by rw[A2r (by omega) (by omega)]))|exact G4 (B0 (by rw[Rk (by omega) (by omega)])) (B0 (by rw[Rk (by omega) (by omega)]))):G:=h
theorem El(m:Mem)(vl:Value)(l:List Station)(hl:Sl m vl l)(id:Int):Exact prog 42 #[vl,J id] m (.tuple #[J ((Cl l id).1),J ((Cl l id).2)]):=by
 refine have ll:=hl.le;D4 func42 O ntmps42 fun a=>q' 10 O<|y' (X.call call89 rfl (Kc _ _ _ hl))<|U 10 O<|e' (X.neq O O) (fun b=>?_) fun b=>?_
 ·exact U 12 O<|B7 O O O<|A8<|DL
 refine U 9 O<|y' (X.call call103 rfl (A5p _ hl id))<|U 7 O<|c' (X.lss O O) (fun c=>?_) fun c=>?_
 ·exact U 11 O<|B7 O O O<|A8<|DL
 exact U 13 O<|B7 O O O<|A8<|DL
end Go.Proofs.S10
