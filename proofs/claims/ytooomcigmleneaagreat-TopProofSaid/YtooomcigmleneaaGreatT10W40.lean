import Derived.Test.YtooomcigmleneaaGreatT10W39
set_option linter.all false
set_option maxHeartbeats 16000000
namespace Go.Proofs.S10
open Tryz Go Go.Kx Go.Proofs.T10
set_option maxRecDepth 20000
theorem B6F(m:Mem)(cb:List Value)(b:BaseT)(hb:Enc.rd m cb b)(cr:List Value)(r:RegT)(hr:Enc.rd m cr r):Pure prog 37 #[.agg cb.toArray,.agg cr.toArray] m (fun m' v=>∃(q0:Bool),v= .bool q0∧(q0=true→r.Sheets.length≤4)):=by
 obtain⟨v1,rfl,W⟩:=hb
 have f6:=W.le
 obtain⟨v4,v6,v8,f7,rfl,p,q,s,f⟩:=hr
 refine have b8:=p.le;have b9:=q.le;have c0:=s.le;have c1:=f.le;F6 func37 O ntmps37 fun d7=>q' 2 O<|o' O O fun d8=>o' O O fun M=>U 5 O<|fz (x:=b) 1 O O ⟨_,rfl,W⟩ fun d9 c g=>have p:=p.mono c;have q:=q.mono c;have s:=s.mono c;have f:=f.mono c;fz (x:=r) 0 O O ⟨_,_,_,_,rfl,p,q,s,f⟩ fun e0 K a=>have g:=g.mono K;q' 1 O<|g' g O fun e1 N=>?_
 obtain⟨f8,rfl,E⟩:=N
 refine have c2:=E.le;c' (X.call call35 rfl (Pn _ _ b ⟨_,rfl,E⟩)) (fun a1=>?_) fun a1=>?_
 ·refine U 3 O<|f' O t'<|U 1 O<|s' (BG a) O fun e2 t=>have c3:=t.le;U 1 O<|l' t O<|U 1 O<|c' (X.gtr O O) (fun a2=>?_) fun a2=>?_
  ·exact U 29 O<|A0 O O<|C2<|⟨_,rfl,fun d=>by first|(cases d;done)|omega⟩
  refine U 3 O<|f' O t'<|U 1 O<|s' (IY a) O fun e3 u=>have c4:=u.le;U 1 O<|l' u O<|U 1 O<|c' (X.gtr O O) (fun a3=>?_) fun a3=>?_
  ·exact U 23 O<|A0 O O<|C2<|⟨_,rfl,fun d=>by first|(cases d;done)|omega⟩
  refine U 3 O<|f' O t'<|U 1 O<|s' (Gi a) O fun e4 w=>have c5:=w.le;U 1 O<|l' w O<|U 1 O<|c' (X.gtr O O) (fun a4=>?_) fun a4=>?_
  ·exact U 17 O<|A0 O O<|C2<|⟨_,rfl,fun d=>by first|(cases d;done)|omega⟩
  refine U 3 O<|f' O t'<|U 1 O<|s' (A5E a) O fun e5 y=>have c6:=y.le;U 1 O<|l' y O<|U 1 O<|c' (X.gtr O O) (fun a5=>?_) fun a5=>?_
  ·exact U 11 O<|A0 O O<|C2<|⟨_,rfl,fun d=>by first|(cases d;done)|omega⟩
  refine U 18 O ?_
  refine S5 (fun(k:Nat) (mk:Int)=>r.Sheets.length-k) (fun k mk=>[]) (fun k mk=>[(3,Pt M 0),(5,J mk),(6,J k)]) (fun k mk=>k≤r.Sheets.length) 0 0 ?_ ?_
  ·exact EF _
  rintro k mk Y
  refine have hk:=Y;q' 4 O<|f' O t'<|s' (BG a) O fun e6 z=>have c7:=z.le;l' z O<|c' (X.lss O O) (fun a6=>?_) fun a6=>?_
  ·refine U 10 O<|f' O t'<|s' (BG a) O fun e7 A=>have c8:=A.le;U 1 O<|x' k A O O fun e8 P=>f' O t'<|g' (CE P) O fun e9 Q=>?_
   obtain⟨f9,g0,g1,g2,rfl,F,G,H,I⟩:=Q
   refine have c9:=F.le;have d0:=G.le;have d1:=H.le;have d2:=I.le;c' (X.call call10 rfl (A6c _ _ ((gt r.Sheets k).Sheet) ⟨_,_,_,_,rfl,F,G,H,I⟩)) (fun a7=>?_) fun a7=>?_
   ·refine U 3 O<|f' O t'<|U 1 O<|s' (BG a) O fun f0 B=>have d3:=B.le;U 3 O<|x' k B O O fun f1 R=>U 1 O<|f' O t'<|U 1 O<|s' (A0U R) O fun f2 C=>have d4:=C.le;U 1 O<|l' C O<|U 1 O<|c' (X.gtr O O) (fun a8=>?_) fun a8=>?_
    ·exact U 16 O<|A0 O O<|C2<|⟨_,rfl,fun d=>by first|(cases d;done)|omega⟩
    refine U 8 O<|f' O t'<|s' (BG a) O fun f3 hs91=>have d5:=hs91.le;U 1 O<|x' k hs91 O O fun f4 S=>f' O t'<|s' (Gw S) O fun f5 D=>have d6:=D.le;l' D O<|y' (A6b rfl rfl)<|U 10 O<|K2 (k+1) (wr (mk+(↑((gt r.Sheets k).Marks).length))) ?_
    ((try dsimp only);omega)
   exact U 26 O<|A0 O O<|C2<|⟨_,rfl,fun d=>by first|(cases d;done)|omega⟩
  refine U 15 O ?_
  refine J4 (fun(k:Nat)=>r.Stations.length-k) (fun k=>[]) (fun k=>[(3,Pt M 0),(5,J mk),(7,J k)]) (fun k=>k≤r.Stations.length) 0 ?_ ?_
  ·exact EF _
  rintro k a0
  refine have hk:=a0;q' 4 O<|f' O t'<|s' (Gi a) O fun b3 l=>have a9:=l.le;l' l O<|c' (X.lss O O) (fun T=>?_) fun T=>?_
  ·refine U 9 O<|f' O t'<|s' (Gi a) O fun b4 hs107=>have b0:=hs107.le;U 1 O<|x' k hs107 O O fun b5 L=>f' O t'<|s' (Jm L) O fun b6 n=>have b1:=n.le;l' n O<|c' (X.gtr O O) (fun V=>?_) fun V=>?_
   ·exact U 14 O<|A0 O O<|C2<|⟨_,rfl,fun d=>by first|(cases d;done)|omega⟩
   exact U 12 O<|I6 (k+1)<|by omega
  exact U 11 O<|f' O t'<|s' (IY a) O fun b7 o=>have b2:=o.le;l' o O<|y' (A6b rfl rfl)<|U 5 O<|A0 O O<|C2<|⟨_,rfl,fun d=>by first|(cases d;done)|omega⟩
 exact U 35 O<|A0 O O<|C2<|⟨_,rfl,fun d=>by first|(cases d;done)|omega⟩
theorem Qi(m:Mem)(cf:List Value)(f:FiledT)(hf:Enc.rd m cf f)(hf_:MP f):Pure prog 85 #[.agg cf.toArray] m (fun m' v=>∃r0,v= .agg r0.toArray∧Enc.rd m' r0 (f)):=by
 obtain⟨v1,v3,v5,v7,v9,G,rfl,y,z,B,C,r,o⟩:=hf
 refine have M:=y.le;have N:=z.le;have P:=B.le;have Q:=C.le;have R:=r.le;have S:=o.le;have V:=hf_.1;have W:=hf_.2;F6 func85 O ntmps85 fun a2=>q' 2 O<|o' O O fun a3=>n' zeroValue76 O fun a4=>U 3 O<|L4 (π:=sq [0,1,3,4,6,7,2,9,5,8,10,11,12,13,14] .done) [2,5,8,10,12,14] [10,12,14] O (by kernel_rfl)<|Z O O (A.f O)<|Z O O (J5 (k:=1) (vs:=[J f.Sheet.Paper.Pitch,J f.Sheet.Paper.Height,J f.Sheet.Paper.Radius,J f.Sheet.Paper.Low,J f.Sheet.Paper.High,J f.Sheet.Paper.Columns,J f.Sheet.Paper.Along.Lo,J f.Sheet.Paper.Along.Hi,J f.Sheet.Paper.Across.Lo,J f.Sheet.Paper.Across.Hi,v1,v3,v5,v7,J f.Sheet.Pen.Band,J f.Sheet.Pen.Zero.Lo,J f.Sheet.Pen.Zero.Hi,J f.Sheet.Pen.Rate]) isAgg35 sizeOf35 rfl rfl rfl rfl)<|Z O O (A.f O)<|Z O O (A.b 1 O O O)<|Z O O (A.f O)<|Z O O (A.b 1 O O O)<|W2 O O O (T.call call165 rfl (DZ _ _ f.Sheet ⟨_,_,_,_,rfl,y,z,B,C⟩ ‹_›)) (by decide) fun a5 a6 s w=>?_
 obtain⟨b3,rfl,D⟩:=w
 replace r:=r.mono s
 replace o:=o.mono s
 obtain⟨H,I,K,L,rfl,a,c,d,g⟩:=D
 refine have X:=a.le;have Y:=c.le;have a0:=d.le;have a1:=g.le;Z O O (A.f O) ?_
 refine AY rfl rfl rfl (H3 call166 rfl (A7O _ r (by omega))) (by decide) (fun a7 Es40 a8 l u=>?_)
 obtain⟨rfl,E⟩:=u
 replace o:=o.mono l
 replace a:=a.mono l
 replace c:=c.mono l
 replace d:=d.mono l
 replace g:=g.mono l
 refine AY rfl rfl rfl (H3 call167 rfl (A8x _ o (by omega))) (by decide) (fun a9 Es45 b0 p u=>?_)
 obtain⟨rfl,F⟩:=u
 refine have a:=a.mono p;have c:=c.mono p;have d:=d.mono p;have g:=g.mono p;B4 O O O O (T3 (k:=3) [J f.Name.Clerk,J f.Name.Num,J f.Station,J f.Week,J f.Sheet.Paper.Pitch,J f.Sheet.Paper.Height,J f.Sheet.Paper.Radius,J f.Sheet.Paper.Low,J f.Sheet.Paper.High,J f.Sheet.Paper.Columns,J f.Sheet.Paper.Along.Lo,J f.Sheet.Paper.Along.Hi,J f.Sheet.Paper.Across.Lo,J f.Sheet.Paper.Across.Hi,H,I,K,L,J f.Sheet.Pen.Band,J f.Sheet.Pen.Zero.Lo,J f.Sheet.Pen.Zero.Hi,J f.Sheet.Pen.Rate,v9,G] sizeOf35 rfl rfl rfl (A4 rfl (A4 rfl (A4 rfl (A4 rfl (A4 rfl (A4 rfl (A4 rfl (A4 rfl (A4 rfl (A4 rfl (A4 a.one (A4 c.one (A4 d.one (A4 g.one (A4 rfl (A4 rfl (A4 rfl (A4 rfl C6)))))))))))))))))) rfl rfl rfl)<|Z O O (A.f O)<|B4 O O O O (C1 (k:=3) sizeOf74 rfl rfl rfl E (J' rfl))<|Z O O (A.f O)<|B4 O O O O (C1 (k:=3) sizeOf56 rfl rfl rfl F (J' rfl))<|V' 3 O<|a' 3 O O<|w' 2 O O O<|U 3 O ?_
 refine E4 1 rfl rfl (by unfold C7;omega) (fun b1 q t=>?_)
 replace a:=a.mono q
 replace c:=c.mono q
 replace d:=d.mono q
 replace g:=g.mono q
 refine E4 0 rfl rfl (by unfold C7;omega) (fun b2 n x=>?_)
 exact have a:=a.mono n;have c:=c.mono n;have d:=d.mono n;have g:=g.mono n;have t:=t.mono n;Ad 0 O O O isAgg76 sizeOf76<|C2<|⟨_,rfl,⟨_,_,_,_,_,_,rfl,a,c,d,g,t,x⟩⟩
theorem B6o(m:Mem)(ca:List Value)(a:FiledT)(ha:Enc.rd m ca a)(cb:List Value)(b:FiledT)(hb:Enc.rd m cb b):Exact prog 87 #[.agg ca.toArray,.agg cb.toArray] m (J (V7 a.Station b.Station)):=by
 obtain⟨v1,v3,v5,v7,v9,R,rfl,t,u,v,w,p,q⟩:=ha
 have y:=t.le
 have z:=u.le
 have A:=v.le
 have B:=w.le
 have C:=p.le
 have D:=q.le
 obtain⟨S,T,V,W,Y,a0,rfl,d,f,g,k,l,n⟩:=hb
 refine have E:=d.le;have F:=f.le;have G:=g.le;have H:=k.le;have I:=l.le;have K:=n.le;D4 func87 O ntmps87 fun L=>q' 2 O<|o' O O fun M=>o' O O fun N=>U 4 O<|fz (x:=a) 1 O O ⟨_,_,_,_,_,_,rfl,t,u,v,w,p,q⟩ fun P c o=>have d:=d.mono c;have f:=f.mono c;have g:=g.mono c;have k:=k.mono c;have l:=l.mono c;have n:=n.mono c;fz (x:=b) 0 O O ⟨_,_,_,_,_,_,rfl,d,f,g,k,l,n⟩ fun Q r s=>have o:=o.mono r;q' 1 O<|f' O t'<|i' (AE o) O<|f' O t'<|i' (AE s) O<|y' (X.call call88 rfl (BM _ _ _))<|U 4 O<|A0 O O<|A8 ?_
 first|rfl|(simp[*];done)
abbrev FV:=BigV 24
instance:Flat FV:=BigV.flat 24 (by decide)
def A3s(fc:Nat):Prop:=Enters prog fc∧∀(m:Mem) (a b:FV),GoodB (fun _:FiledT=>True) m a→GoodB (fun _:FiledT=>True) m b→∃z:Int,Exact prog fc #[.agg a.cells.toArray,.agg b.cells.toArray] m (J z)
theorem B5e:A3s 87:=⟨call87,fun m a b ⟨x,c,_⟩ ⟨y,d,_⟩=>⟨_,B6o m _ x c _ y d⟩⟩
theorem B6r(m:Mem){v:Value}{L:List FV}(hL:L.length≤1000000){Q:FiledT→Prop}(hG:GoodL Q m L){fc:Nat}(hC:A3s fc){a b:Nat}{za zb:Int}(hza:za=a)(hzb:zb=b)(hab:a≤b)(hbl:b≤L.length):Mut prog 239 #[v,J za,J zb,Fc fc] m [A5 v 76 L] (fun _ Es u=>u= .tuple #[]∧∃R,Es=[A5 v 76 R]∧R.Perm L∧True):=by
 subst hza
 subst hzb
 refine G3 func239 O ntmps239 fun o=>q' 8 O ?_
 refine S5 (fun(i:Nat) (R:List FV)=>b-i) (fun i R=>[A5 (v) 76 (R)]) (fun i R=>[(0,v),(1,J a),(2,J b),(3,Fc fc),(8,J i)]) (fun i R=>a+1≤i∧R.Perm L) (a+1) L ?_ ?_
 ·exact⟨by omega,.refl _⟩
 rintro i R ⟨hi,c⟩
 refine have f:=c.length_eq;q' 5 O<|c' (X.lss O O) (fun p=>?_) fun p=>?_
 ·refine U 14 O ?_
  refine S5 (fun(j:Nat) (R:List FV)=>j) (fun j R=>[A5 (v) 76 (R)]) (fun j R=>[(0,v),(1,J a),(2,J b),(3,Fc fc),(8,J i),(9,J j)]) (fun j R=>a≤j∧j≤i∧i<b∧R.Perm L) i R ?_ ?_
  ·exact⟨by omega,by omega,by omega,c⟩
  rintro j R ⟨s,t,w,c⟩
  refine have f:=c.length_eq;q' 2 O<|B9 17 [] []<|U' 2 O<|C' O O (X.gtr O O) (fun q=>?_) fun q=>?_
  ·refine U' 4 O<|Z O O (A9 0 j)<|Z O O (F4 0 (j) O O O)<|U' 3 O<|Z O O (A9 0 (j-1))<|Z O O (F4 0 ((j-1)) O O O) ?_
   obtain⟨x,g⟩:=hC.2 _ (gt R j) (gt R (j-1)) (GoodL.at_ (by first|exact hG|exact hG.perm ‹_›) (by first|omega|(simp;omega))).any (GoodL.at_ (by first|exact hG|exact hG.perm ‹_›) (by first|omega|(simp;omega))).any
   refine Z O O (E1 hC.1 rfl rfl g)<|C' O O (X.lss O O) (fun r=>?_) fun r=>?_
   ·refine U' 1 O<|V' 6 O<|B9 18 [15,17] [15,17,100004]<|U' 4 O<|J2 O O O (fun _ _ n=>(X.sub rfl rfl (by omega) (by omega))) (by decide)<|U' 3 O<|Z O O (A9 0 (j-1))<|Z O O (F4 0 ((j-1)) O O O)<|U' 2 O<|Z O O (A9 0 j)<|Z O O (F4 0 (j) O O O)<|Z O O (A9 0 j)<|B4 O O O O (E0 (k:=0) (i:=j) (a:=gt R (j-1)) sizeOf76 rfl rfl rfl rfl (by first|omega|(simp;omega)|simp))<|Z O O (A9 0 (j-1))<|B4 O O O O (E0 (k:=0) (i:=(j-1)) (a:=gt R j) sizeOf76 rfl rfl rfl rfl (by first|omega|(simp;omega)|simp))<|V' 8 O ?_
    obtain⟨l,d⟩:∃qq__:Nat,(↑j-1:Int)=(qq__:Int):=⟨(↑j-1:Int).toNat,(by omega)⟩
    rw[d]
    obtain rfl:l=j-1:=(by omega)
    exact K2 (j-1) ((R.set j (gt R (j-1))).set (j-1) (gt R j))<|⟨by omega,by omega,by omega,I1 c (by omega) (by omega)⟩
   exact U' 1 O<|V' 14 O<|K2 (i+1) R<|⟨by omega,c⟩
  exact U' 14 O<|V' 14 O<|K2 (i+1) R<|⟨by omega,c⟩
 exact U 7 O<|D0 O<|I2<|⟨rfl,_,rfl,c,trivial⟩
theorem B4j(m:Mem){v:Value}{L:List FV}(hL:L.length≤1000000){Q:FiledT→Prop}(hG:GoodL Q m L){fc:Nat}(hC:A3s fc){n:Nat}{zn:Int}(hzn:zn=n)(hnl:n=L.length)(hsm:L.length≤19):Mut prog 168 #[v,J zn,Fc fc] m [A5 v 76 L] (fun _ Es u=>u= .tuple #[]∧∃R,Es=[A5 v 76 R]∧R.Perm L∧True):=by
 subst hzn
 refine G3 func168 O ntmps168 fun o=>q' 14 O ?_
 refine J4 (fun(c:Unit)=>0) (fun c=>[A5 (v) 76 (L)]) (fun c=>[(0,v),(1,J n),(2,Fc fc),(6,J 20),(7,J 0),(8,J 20)]) (fun c=>True) () ?_ ?_
 ·trivial
 rintro c q
 refine q' 5 O<|y' (OpX.f (X.leq rfl rfl) (by omega))<|U 14 O ?_
 refine C5 (C8 (A:=[]) call239 rfl (.refl _) (B6r _ (L:=L) (by first|omega|(simp;omega)) (by first|exact hG|exact hG.perm ‹_›|exact hG.perm (I1 hP (by omega) (by omega))) hC (a:=0) (b:=n) (by omega) (by omega) (by omega) (by omega))) (by decide) (fun t p c k g=>?_)
 obtain⟨rfl,R4,rfl,d,r⟩:=g
 replace d:R4.Perm L:=d.trans (by first|exact .refl _|assumption|exact I1 hP (by omega) (by omega))
 refine have l:=d.length_eq;U 3 O ?_
 refine J4 (fun(c:Unit)=>0) (fun c=>[A5 (v) 76 (R4)]) (fun c=>[(0,v),(1,J n),(2,Fc fc),(6,J 20)]) (fun c=>True) () ?_ ?_
 ·trivial
 rintro c s
 exact q' 5 O<|y' (OpX.f (X.lss rfl rfl) (by omega))<|U 7 O<|D0 O<|I2<|⟨rfl,_,rfl,by assumption,trivial⟩
theorem B6f(m:Mem){v:Value}{L:List FV}(hsm:L.length≤19){Q:FiledT→Prop}(hG:GoodL Q m L){fc:Nat}(hC:A3s fc):Mut prog 86 #[v,Fc fc] m [A5 v 76 L] (fun _ Es u=>u= .tuple #[]∧∃R,Es=[A5 v 76 R]∧R.Perm L):=by
 refine G3 func86 O ntmps86 fun f=>q' 3 O<|y' (V8 (k:=0) runUnderlying54 rfl rfl)<|U 1 O ?_
 refine C5 (C8 (A:=[]) call168 rfl (.refl _) (B4j _ (L:=L) (by first|omega|(simp;omega)) (by first|exact hG|exact hG.perm ‹_›|exact hG.perm (I1 hP (by omega) (by omega))) hC (n:=L.length) (by omega) (by omega) (by omega))) (by decide) (fun o g p c b=>?_)
 obtain⟨rfl,R3,rfl,a,l⟩:=b
 replace a:R3.Perm L:=a.trans (by first|exact .refl _|assumption|exact I1 hP (by omega) (by omega))
 exact have d:=a.length_eq;U 1 O<|D0 O<|I2<|⟨rfl,_,rfl,by assumption⟩
theorem Ec{G:Prop}(h:G:=by exact⟨_,((WeekT.mk ((BaseT.mk ([]) ((Wind.mk (0) (0))) (0) (0) (0))) (0) ([]) ([]))),_,rfl,⟨_,_,_,rfl,.nil,.nil,.nil⟩,fun h_=>by first|(exfalso;omega)|exact⟨rfl,rfl⟩⟩):G:=h
theorem KH{G:Prop}(h:G:=by exact⟨by omega,(by first|omega|(simp only[F',N',P',I'];omega))⟩):G:=h
theorem A7L(m:Mem)(cb:List Value)(b:BaseT)(hb:Enc.rd m cb b)(cr:List Value)(r:RegT)(hr:Enc.rd m cr r)(week:Int)(hr_:rgB r)(hs_:r.Sheets.length≤4):Pure prog 38 #[.agg cb.toArray,.agg cr.toArray,J week] m (fun m' v=>∃(r0:List Value) (x0:WeekT) (z1:Int),v= .tuple #[.agg r0.toArray,J z1]∧Enc.rd m' r0 x0∧(z1=0→x0.Base.Term=b.Term∧x0.Base.Ticks=b.Ticks)):=by
 obtain⟨v1,rfl,d5⟩:=hb
 have k5:=d5.le
 obtain⟨v4,v6,v8,k6,rfl,a0,a1,a2,z⟩:=hr
 have h3:=a0.le
 have h4:=a1.le
 have h5:=a2.le
 have h6:=z.le
 have h7:=hr_.1
 have h8:∀i,i<r.Stations.length→(gt r.Stations i).Heights.length≤1000:=hr_.2.1
 refine F6 func38 O ntmps38 fun j2=>q' 2 O<|o' O O fun j3=>o' O O fun e1=>n' zeroValue60 O fun P=>U 5 O<|fz (x:=b) 2 O O ⟨_,rfl,d5⟩ fun j4 l u=>have a0:=a0.mono l;have a1:=a1.mono l;have a2:=a2.mono l;have z:=z.mono l;fz (x:=r) 1 O O ⟨_,_,_,_,rfl,a0,a1,a2,z⟩ fun j5 b2 c=>have u:=u.mono b2;q' 1 O<|g' u O fun j6 c2=>?_
 obtain⟨k7,rfl,a4⟩:=c2
 refine have h9:=a4.le;y' (X.call call82 rfl (GE _ _ b ⟨_,rfl,a4⟩))<|U 6 O<|e' (X.neq O O) (fun e2=>?_) fun e2=>?_
 ·refine U 5 O<|WL.x (V:=Value.agg [S0,J 0,J 0,J 0,J 0,J 0,J 0,S0,S0].toArray) (X.build zeroValue60 runUnderlying60 (Bj _ underlying60) rfl rfl) (by decide) ?_
  exact U 1 O<|w' 0 O O O<|U 5 O<|E6 0 O O O O isAgg60 sizeOf60<|C2<|Ec
 refine U 9 O<|c' (X.call call83 rfl (U4 _ _ _ _)) (fun e3=>?_) fun e3=>?_
 ·refine U 8 O<|g' u O fun j7 c3=>?_
  obtain⟨f6,rfl,d6⟩:=c3
  refine have i0:=d6.le;U 1 O<|WL.x (V:=Value.agg [f6,J b.Wind.Fixed,J b.Wind.Each,J b.Term,J b.Ticks,J b.Clerks,J week,S0,S0].toArray) (X.build zeroValue60 runUnderlying60 (Bj _ underlying60) rfl (by kernel_rfl)) (by decide) ?_
  refine n' zeroValue60 O fun R=>w' 0 O O O<|U 3 O<|Bu 76 24<|I5 ReadT 196<|q' 1 O<|f' O t'<|s' (Gi c) O fun j8 a3=>?_
  have i1:=a3.le
  refine C5 (H3 call84 rfl (A0s _ a3 (by omega) ‹_›)) (by decide) (fun c4 Es43 S b3 b4=>?_)
  obtain⟨a5,rfl,g,d7⟩:=b4
  refine have c:=c.mono b3;f' O t'<|f' O t'<|G7 (C1 (k:=3) sizeOf47 rfl rfl rfl d7 (J' rfl))<|U 5 O<|f' O t'<|s' (BG c) O fun e4 q=>have i2:=q.le;l' q O<|U 4 O ?_
  refine lp (G:=Nat×Value×List Value×List FiledT×Mem) (fun(i,vM,xM,M,mm)=>r.Sheets.length-i) (fun(i,vM,xM,M,mm)=>mm) (fun(i,vM,xM,M,mm)=>[row (S) 128 4 (r.Stations).length (a5),A5 ((S0)) 196 (([]:List ReadT)),row (vM) 76 24 (M).length (xM),blk R 60 [S,J b.Wind.Fixed,J b.Wind.Each,J b.Term,J b.Ticks,J b.Clerks,J week,vM,(S0)],blk P 60 [S0,J 0,J 0,J 0,J 0,J 0,J 0,S0,S0]]) (fun(i,vM,xM,M,mm)=>[(2,J week),(4,Pt e1 0),(6,Pt P 0),(9,Pt R 0),(33,e4),(34,J r.Sheets.length),(35,J i)]) (fun(i,vM,xM,M,mm)=>c4.le mm∧RdL mm xM M∧i≤r.Sheets.length∧M.length≤i) ((0,Value.slice none 0 0,[],[],c4)) ?_ ?_
  ·exact⟨Mem.le_refl _,RdL.nil,EF _,E' _⟩
  rintro⟨i,vM,xM,M,mm⟩ d8
  obtain⟨C,B,hi,k8⟩:=d8
  refine have c:=c.mono C;have g:=g.mono C;have q:=q.mono C;q' 2 O<|c' (X.lss O O) (fun e5=>?_) fun e5=>?_
  ·refine U 10 O<|x' i q O O fun j9 c5=>g' c5 O fun k0 c6=>?_
   obtain⟨k9,l0,l1,l2,l3,l4,rfl,a6,a7,a8,a9,b0,b1⟩:=c6
   refine have i3:=a6.le;have i4:=a7.le;have i5:=a8.le;have i6:=a9.le;have i7:=b0.le;have i8:=b1.le;n' zeroValue76 O fun k1=>w' 0 O O O<|U 4 O<|f' O t'<|b' 0 O O O<|U 1 O<|c' (X.eql O O) (fun e6=>?_) fun e6=>?_
   ·refine U 3 O<|B9 8 [3,4,5,7] [5,7]<|Z O O (A.f O)<|Z O O (A.b 4 O O O)<|Z O O (L9 0 O O O)<|W2 O O O (T.call call85 rfl (Qi _ _ (gt r.Sheets i) ⟨_,_,_,_,_,_,rfl,a6,a7,a8,a9,b0,b1⟩ (hr_.2.2 _ (M0 (by omega))))) (by decide) fun e7 k2 o c7=>?_
    obtain⟨l5,rfl,d9⟩:=c7
    replace c:=c.mono o
    replace g:=g.mono o
    replace B:=B.mono o
    obtain⟨f7,f8,f9,g0,g1,g2,rfl,D,E,F,H,I,K⟩:=d9
    refine have i9:=D.le;have j0:=E.le;have j1:=F.le;have f2:=H.le;have f3:=I.le;have f4:=K.le;As O O O (G6 A2y rfl rfl rfl (by decide)) (by decide) fun g3=>?_
    refine Ae rfl rfl rfl rfl (Ax (k:=3) (n':=(M++[gt r.Sheets i]).length) A2y rfl rfl rfl rfl rfl (A4 rfl (A4 rfl (A4 rfl (A4 rfl (A4 rfl (A4 rfl (A4 rfl (A4 rfl (A4 rfl (A4 rfl (A4 rfl (A4 rfl (A4 rfl (A4 rfl (A4 D.one (A4 E.one (A4 F.one (A4 H.one (A4 rfl (A4 rfl (A4 rfl (A4 rfl (A4 I.one (A4 K.one C6)))))))))))))))))))))))) (by simp) (by first|omega|(simp;omega)) (by first|omega|(simp;omega))) (by decide) (fun c8=>?_)
    refine have c1:=RdL.snoc (a:=gt r.Sheets i) B ⟨_,_,_,_,_,_,rfl,D,E,F,H,I,K⟩;Z O O (A.f O)<|B4 O O O O (T1 (k:=3) rfl trivial (D1 rfl rfl rfl) fun b5=>C1 (k:=4) sizeOf54 rfl rfl rfl b5 (J' rfl))<|V' 7 O ?_
    refine nx ((i+1,c8,xM++[J ((((gt r.Sheets i)).Name).Clerk),J ((((gt r.Sheets i)).Name).Num),J (((gt r.Sheets i)).Station),J (((gt r.Sheets i)).Week),J (((((gt r.Sheets i)).Sheet).Paper).Pitch),J (((((gt r.Sheets i)).Sheet).Paper).Height),J (((((gt r.Sheets i)).Sheet).Paper).Radius),J (((((gt r.Sheets i)).Sheet).Paper).Low),J (((((gt r.Sheets i)).Sheet).Paper).High),J (((((gt r.Sheets i)).Sheet).Paper).Columns),J ((((((gt r.Sheets i)).Sheet).Paper).Along).Lo),J ((((((gt r.Sheets i)).Sheet).Paper).Along).Hi),J ((((((gt r.Sheets i)).Sheet).Paper).Across).Lo),J ((((((gt r.Sheets i)).Sheet).Paper).Across).Hi),f7,f8,f9,g0,J (((((gt r.Sheets i)).Sheet).Pen).Band),J ((((((gt r.Sheets i)).Sheet).Pen).Zero).Lo),J ((((((gt r.Sheets i)).Sheet).Pen).Zero).Hi),J (((((gt r.Sheets i)).Sheet).Pen).Rate),g1,g2],M++[gt r.Sheets i],e7)) ?_ ?_
    ·exact⟨(Mem.le_trans C o),c1,by omega,(by first|omega|(simp only[F',N',P',I'];omega))⟩
    (dsimp only;omega)
   refine U 11 O ?_
   refine nx ((i+1,vM,xM,M,mm)) ?_ ?_
   ·exact⟨C,B,by omega,(by first|omega|(simp only[F',N',P',I'];omega))⟩
   (dsimp only;omega)
  refine U 10 O ?_
  refine RU (Q:=fun _=>True) (n:=24) (k:=2) (by decide) rfl rfl B (fun _ _=>trivial) (fun e8 g4 hG=>?_)
  refine q' 1 O<|f' O t'<|b' 3 O O O ?_
  refine C5 (K5 [2] call86 O (B6f _ (L:=e8) (by omega) hG B5e)) (by decide) (fun g5 k3 u_ p b4=>?_)
  obtain⟨rfl,R109,rfl,N⟩:=b4
  refine have c:=c.mono p;have g:=g.mono p;have hG:=hG.mono p;have e0:=N.length_eq;have hG:=GoodL.perm hG N;U 4 O ?_
  refine MB (Q:=fun _=>True) (n:=24) (k:=0) (by decide) rfl rfl hG (fun L2 e9 k4 b6 _=>?_)
  refine q' 1 O<|f' O t'<|s' (IY c) O fun c9 s=>have f5:=s.le;l' s O<|U 4 O ?_
  refine Di (fun(j:Nat) (vN:Value) (Nr:List ReadT)=>r.Reads.length-j) (fun j vN Nr=>[row (vM) 76 24 (L2).length (e9),row (S) 128 4 (r.Stations).length (a5),A5 (vN) 196 (Nr),blk R 60 [S,J b.Wind.Fixed,J b.Wind.Each,J b.Term,J b.Ticks,J b.Clerks,J week,vM,vN],blk P 60 [S0,J 0,J 0,J 0,J 0,J 0,J 0,S0,S0]]) (fun j vN Nr=>[(2,J week),(6,Pt P 0),(9,Pt R 0),(55,c9),(56,J r.Reads.length),(57,J j)]) (fun j vN Nr=>j≤r.Reads.length∧Nr.length≤j) 0 (Value.slice none 0 0) [] ?_ ?_
  ·exact⟨EF _,E' _⟩
  rintro j vN Nr ⟨hj,l6⟩
  refine q' 2 O<|c' (X.lss O O) (fun d0=>?_) fun d0=>?_
  ·refine U 10 O<|x' j s O O fun g6 b7=>g' b7 O fun g7 b8=>?_
   obtain rfl:=b8
   refine n' zeroValue196 O fun g8=>w' 0 O O O<|U 4 O<|f' O t'<|b' 0 O O O<|U 1 O<|c' (X.eql O O) (fun d1=>?_) fun d1=>?_
   ·refine U 4 O<|f' O t'<|b' 4 O O O<|a' 0 O O<|R0 (G6 Ot rfl rfl rfl (by decide)) (by decide) fun g9=>?_
    refine G2 (G1 (k:=3) (a:=gt r.Reads j) Ot rfl rfl rfl rfl (by first|omega|(simp;done)|(simp;omega)) (by decide)) (by decide) (fun d2=>?_)
    refine WL.y (X.field runUnderlying60 rfl sizeOf55 rfl) ?_
    refine E8 (k:=3) rfl (fun b9=>?_)
    exact G7 (C1 (k:=4) sizeOf55 rfl rfl rfl b9 (J' rfl))<|U 8 O<|O7 (j+1) d2 (Nr++[gt r.Reads j])<|KH
   exact U 11 O<|O7 (j+1) vN Nr<|KH
  refine U 12 O<|f' O t'<|b' 3 O O O<|y' (U5 (k:=0) runUnderlying54 rfl rfl)<|c' (X.gtr O O) (fun d3=>?_) fun d3=>?_
  ·refine U 11 O<|WL.x (V:=Value.agg [S0,J 0,J 0,J 0,J 0,J 0,J 0,S0,S0].toArray) (X.build zeroValue60 runUnderlying60 (Bj _ underlying60) rfl rfl) (by decide) ?_
   exact w' 4 O O O<|U 5 O<|E6 4 O O O O isAgg60 sizeOf60<|C2<|Ec
  refine U 2 O<|f' O t'<|U 1 O<|b' 3 O O O<|U 1 O<|y' (V8 (k:=2) runUnderlying55 rfl rfl)<|U 1 O<|c' (X.gtr O O) (fun d4=>?_) fun d4=>?_
  ·refine U 6 O<|WL.x (V:=Value.agg [S0,J 0,J 0,J 0,J 0,J 0,J 0,S0,S0].toArray) (X.build zeroValue60 runUnderlying60 (Bj _ underlying60) rfl rfl) (by decide) ?_
   exact w' 4 O O O<|U 5 O<|E6 4 O O O O isAgg60 sizeOf60<|C2<|Ec
  refine U 8 O<|a' 3 O O ?_
  refine E8 (k:=0) rfl (fun f0=>?_)
  refine E8 (k:=2) rfl (fun f1=>?_)
  refine w' 4 O O O<|U 4 O ?_
  refine M7 1 rfl rfl g (by unfold C7;omega) (fun h0 W d=>?_)
  replace b6:=b6.mono W
  refine M7 0 rfl rfl b6 (by unfold C7;omega) (fun h1 Y t=>?_)
  replace d:=d.mono Y
  refine E4 0 rfl rfl (by unfold C7;omega) (fun h2 w c0=>?_)
  exact have d:=d.mono w;have t:=t.mono w;E6 1 O O O O isAgg60 sizeOf60<|C2<|⟨_,((WeekT.mk ((BaseT.mk (r.Stations) (b.Wind) (b.Term) (b.Ticks) (b.Clerks))) (week) (L2) (Nr))),_,rfl,⟨_,_,_,rfl,d,t,c0⟩,fun h_=>by first|(exfalso;omega)|exact⟨rfl,rfl⟩⟩
 refine U 6 O<|WL.x (V:=Value.agg [S0,J 0,J 0,J 0,J 0,J 0,J 0,S0,S0].toArray) (X.build zeroValue60 runUnderlying60 (Bj _ underlying60) rfl rfl) (by decide) ?_
 exact w' 0 O O O<|U 5 O<|E6 0 O O O O isAgg60 sizeOf60<|C2<|Ec
theorem KP{G:Prop}(h:G:=by exact⟨_,((RegT.mk ([]) ([]) ([]) ([]))),_,((WeekT.mk ((BaseT.mk ([]) ((Wind.mk (0) (0))) (0) (0) (0))) (0) ([]) ([]))),_,rfl,⟨_,_,_,_,rfl,.nil,.nil,.nil,.nil⟩,⟨_,_,_,rfl,.nil,.nil,.nil⟩,fun h_=>by first|(cases h_;done)|(have h1_:=Sv h_;have h2_:=h_ (by omega);exact⟨by omega,h2_.1,h2_.2⟩)⟩):G:=h
theorem KF{G:Prop}(h:G:=by exact⟨_,x27,_,x66,_,rfl,⟨_,_,_,_,rfl,hs89,hs91,hs93,hs95⟩,⟨_,_,_,rfl,hs103,hs105,hs107⟩,fun h_=>by first|(cases h_;done)|(have h1_:=Sv h_;have h2_:=hx69 (by omega);exact⟨by omega,h2_.1,h2_.2⟩)⟩):G:=h
theorem Kz{G:Prop}(h:G:=by exact⟨_,((RegT.mk ([]) ([]) ([]) ([]))),_,((WeekT.mk ((BaseT.mk ([]) ((Wind.mk (0) (0))) (0) (0) (0))) (0) ([]) ([]))),_,rfl,⟨_,_,_,_,rfl,.nil,.nil,.nil,.nil⟩,⟨_,_,_,rfl,.nil,.nil,.nil⟩,fun h_=>by first|(cases h_;done)|(have h1_:=Sv h_;have h2_:=hx69 (by omega);exact⟨by omega,h2_.1,h2_.2⟩)⟩):G:=h
theorem A9a(m:Mem)(cb:List Value)(b:BaseT)(hb:Enc.rd m cb b)(vl:Value)(l:List NoteT)(hl:Sl m vl l)(week:Int):Pure prog 13 #[.agg cb.toArray,vl,J week] m (fun m' v=>∃(r0:List Value) (x0:RegT) (r1:List Value) (x1:WeekT) (q2:Bool),v= .tuple #[.agg r0.toArray,.agg r1.toArray,.bool q2]∧Enc.rd m' r0 x0∧Enc.rd m' r1 x1∧(q2=true→AN x1=0∧x1.Base.Term=b.Term∧x1.Base.Ticks=b.Ticks)):=by
 obtain⟨v1,rfl,a0⟩:=hb
 refine have f7:=a0.le;have ll:=hl.le;F6 func13 O ntmps13 fun e1=>q' 2 O<|o' O O fun b4=>n' zeroValue58 O fun b5=>n' zeroValue60 O fun b6=>U 5 O<|fz (x:=b) 2 O O ⟨_,rfl,a0⟩ fun m7 K n=>have hl:=hl.mono K;q' 2 O<|c' (X.call call34 rfl (B6I _ _ _ hl)) (fun a5=>?_) fun a5=>?_
 ·refine U 3 O<|g' n O fun e2 L=>?_
  obtain⟨f8,rfl,B⟩:=L
  refine have c0:=B.le;U 1 O<|c' (X.call call35 rfl (Pn _ _ b ⟨_,rfl,B⟩)) (fun a6=>?_) fun a6=>?_
  ·refine U 10 O<|g' n O fun e3 M=>?_
   obtain⟨f9,rfl,C⟩:=M
   refine have c1:=C.le;U 1 O<|C0 (T.call call36 rfl (A7B _ _ b ⟨_,rfl,C⟩ _ _ hl ‹_›)) (by decide) fun e4 e5 F N=>?_
   obtain⟨g0,x27,g1,rfl,a1,a2⟩:=N
   replace n:=n.mono F
   obtain⟨g2,g3,g4,g5,rfl,a,c,d,f⟩:=a1
   refine have c2:=a.le;have c3:=c.le;have c4:=d.le;have c5:=f.le;U 3 O<|n' zeroValue58 O fun e6=>w' 0 O O O<|U 7 O<|e' (X.neq O O) (fun a7=>?_) fun a7=>?_
   ·refine U 11 O<|WL.x (V:=Value.agg [S0,S0,S0,S0].toArray) (X.build zeroValue58 runUnderlying58 (FZ _ underlying58) rfl rfl) (by decide) ?_
    refine WL.y (V:=Value.agg [S0,J 0,J 0,J 0,J 0,J 0,J 0,S0,S0].toArray) (X.build zeroValue60 runUnderlying60 (Bj _ underlying60) rfl rfl) ?_
    exact w' 2 O O O<|w' 1 O O O<|U 5 O<|DR 2 1 O O O O O O isAgg58 sizeOf58 isAgg60 sizeOf60<|C2<|KP
   refine U 2 O<|g' n O fun e7 P=>?_
   obtain⟨g6,rfl,D⟩:=P
   refine have c6:=D.le;U 1 O<|a' 0 O O<|U 1 O<|C0 (T.call call37 rfl (B6F _ _ b ⟨_,rfl,D⟩ _ x27 ⟨_,_,_,_,rfl,a,c,d,f⟩)) (by decide) fun e8 e9 g Q=>?_
   obtain⟨b7,rfl,a3⟩:=Q
   replace n:=n.mono g
   replace a:=a.mono g
   replace c:=c.mono g
   replace d:=d.mono g
   replace f:=f.mono g
   cases b7
   ·refine U 8 O<|WL.x (V:=Value.agg [S0,S0,S0,S0].toArray) (X.build zeroValue58 runUnderlying58 (FZ _ underlying58) rfl rfl) (by decide) ?_
    refine WL.y (V:=Value.agg [S0,J 0,J 0,J 0,J 0,J 0,J 0,S0,S0].toArray) (X.build zeroValue60 runUnderlying60 (Bj _ underlying60) rfl rfl) ?_
    exact w' 2 O O O<|w' 1 O O O<|U 5 O<|DR 2 1 O O O O O O isAgg58 sizeOf58 isAgg60 sizeOf60<|C2<|KP
   refine U 10 O<|g' n O fun f0 R=>?_
   obtain⟨g7,rfl,E⟩:=R
   refine have c7:=E.le;a' 0 O O<|U 1 O<|C0 (T.call call38 rfl (A7L _ _ b ⟨_,rfl,E⟩ _ x27 ⟨_,_,_,_,rfl,a,c,d,f⟩ _ a2.1 (a3 rfl))) (by decide) fun f1 f2 k S=>?_
   obtain⟨g8,x66,g9,rfl,a4,hx69⟩:=S
   replace a:=a.mono k
   replace c:=c.mono k
   replace d:=d.mono k
   replace f:=f.mono k
   obtain⟨h0,h1,h2,rfl,p,q,r⟩:=a4
   refine have c8:=p.le;have c9:=q.le;have d0:=r.le;U 3 O<|n' zeroValue60 O fun f3=>w' 0 O O O<|U 4 O<|fz (x:=x27) 1 O O ⟨_,_,_,_,rfl,a,c,d,f⟩ fun f4 o s=>have p:=p.mono o;have q:=q.mono o;have r:=r.mono o;fz (x:=x66) 0 O O ⟨_,_,_,rfl,p,q,r⟩ fun f5 G z=>have s:=s.mono G;B9 12 [9,10] [9,10,100001,100007,100008]<|G' s O O O fun f6 W=>?_
   obtain⟨h3,h4,h5,h6,rfl,hs89,hs91,hs93,hs95⟩:=W
   have d1:=hs89.le
   have d2:=hs91.le
   have d3:=hs93.le
   have d4:=hs95.le
   refine GS rfl rfl rfl (Cb isAgg60 sizeOf60 rfl z) (by decide) (fun b8 H=>?_)
   obtain⟨d5,d6,d7,rfl,hs103,hs105,hs107⟩:=H
   refine have a8:=hs103.le;have a9:=hs105.le;have b0:=hs107.le;U' 1 O<|C' O O (X.eql O O) (fun Y=>?_) fun Y=>?_
   ·refine U' 1 O<|G' z O O O fun b9 I=>?_
    obtain⟨d8,d9,e0,rfl,t,u,w⟩:=I
    exact have b1:=t.le;have b2:=u.le;have b3:=w.le;Z O O (X.call call39 rfl (Ka _ _ x66 ⟨_,_,_,rfl,t,u,w⟩))<|J2 O O O (fun _ _ A=>(X.eql rfl rfl)) (by decide)<|J2 O O O (fun _ _ A=>(A2l rfl rfl rfl)) (by decide)<|W' 1 O O O O O<|W' 0 O O O O O<|U' 1 O<|V' 2 O<|DR 1 0 O O O O O O isAgg58 sizeOf58 isAgg60 sizeOf60<|C2<|KF
   exact U' 4 O<|J2 O O O (fun _ _ A=>(A1Q rfl rfl rfl)) (by decide)<|W' 1 O O O O O<|W' 0 O O O O O<|U' 1 O<|V' 2 O<|DR 1 0 O O O O O O isAgg58 sizeOf58 isAgg60 sizeOf60<|C2<|KF
  refine U 8 O<|WL.x (V:=Value.agg [S0,S0,S0,S0].toArray) (X.build zeroValue58 runUnderlying58 (FZ _ underlying58) rfl rfl) (by decide) ?_
  refine WL.y (V:=Value.agg [S0,J 0,J 0,J 0,J 0,J 0,J 0,S0,S0].toArray) (X.build zeroValue60 runUnderlying60 (Bj _ underlying60) rfl rfl) ?_
  exact w' 1 O O O<|w' 0 O O O<|U 5 O<|DR 1 0 O O O O O O isAgg58 sizeOf58 isAgg60 sizeOf60<|C2<|Kz
 refine U 11 O<|WL.x (V:=Value.agg [S0,S0,S0,S0].toArray) (X.build zeroValue58 runUnderlying58 (FZ _ underlying58) rfl rfl) (by decide) ?_
 refine WL.y (V:=Value.agg [S0,J 0,J 0,J 0,J 0,J 0,J 0,S0,S0].toArray) (X.build zeroValue60 runUnderlying60 (Bj _ underlying60) rfl rfl) ?_
 exact w' 1 O O O<|w' 0 O O O<|U 5 O<|DR 1 0 O O O O O O isAgg58 sizeOf58 isAgg60 sizeOf60<|C2<|Kz
end Go.Proofs.S10
