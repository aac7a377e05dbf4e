import Derived.Test.YtooomcigmleneaaGreatT10W10
set_option linter.all false
set_option maxHeartbeats 8000000
namespace Go.Proofs.T10
open Tryz Go Go.Kx
set_option maxRecDepth 20000
variable{G:Prop}
theorem HJ(h:G:=by first|exact⟨_,G4 rfl (B0 (by rw[A0n (by omega)])),by rw[Mb (by rw[A0n (by omega)];omega)];exact⟨_,rfl,.nil⟩⟩|exact⟨_,G4 rfl (B0 (by rw[PW (by omega) (fun h_=>by have h1_:=h_ k (by omega);omega)])),by rw[Mb (by rw[PW (by omega) (fun h_=>by have h1_:=h_ k (by omega);omega)];omega)];exact⟨_,rfl,.nil⟩⟩|exact⟨_,G4 rfl (B0 (by rw[Ri (by omega) hbp_ (fun h_=>by have h1_:=h_ q (by omega);rw[Kh hnb_]at h1_;omega)])),by rw[Mb (by rw[Ri (by omega) hbp_ (fun h_=>by have h1_:=h_ q (by omega);rw[Kh hnb_]at h1_;omega)];omega)];exact⟨_,rfl,.nil⟩⟩):G:=h
theorem QG(h:G:=by exact⟨by omega,fun j hj=>by rcases Sc.1 hj with h|h;exact hall j h;subst h;exact⟨by omega,fun _=>by omega⟩⟩):G:=h
theorem QJ(h:G:=by exact⟨by omega,hstep_,fun j hj=>by rcases Sc.1 hj with h|h;exact hin_ j h;subst h;first|(rw[Rc hyb_];exact EF _)|(rw[Kh hnb_];omega)⟩):G:=h
theorem B0r(m:Mem)(cp:List Value)(p:Paper)(hp:Enc.rd m cp p)(vl:Value)(l:List Point)(hl:Sl m vl l)(vblots:Value)(blots:List Int)(hblots:Sl m vblots blots):Pure prog 28 #[.agg cp.toArray,vl,vblots] m (fun m' v=>∃r0,v= .tuple #[.agg r0.toArray,J (DP p l blots)]∧Enc.rd m' r0 ((Inked.mk (EO p l blots)))):=by
 obtain rfl:=hp
 refine have ll:=hl.le;have lblots:=hblots.le;F6 func28 O ntmps28 fun k2=>q' 2 O<|o' O O fun b1=>n' zeroValue104 O fun F=>U 4 O<|fz (x:=p) 1 O O O fun m3 c3 g=>have hl:=hl.mono c3;have hblots:=hblots.mono c3;q' 1 O<|g' g O fun c6 h3=>?_
 obtain rfl:=h3
 refine U 1 O ?_
 refine C0 (T.call call73 rfl (B3z _ (p:=p) hl)) (by decide) (fun m8 _ a5 P=>?_)
 obtain⟨l7,rfl,h1⟩:=P
 refine have hl:=hl.mono a5;have hblots:=hblots.mono a5;have g:=g.mono a5;U 3 O<|n' zeroValue179 O fun H=>w' 0 O O O<|U 7 O<|e' (X.neq O O) (fun h4=>?_) fun h4=>?_
 ·refine U 5 O<|WL.x (V:=Value.agg [S0].toArray) (X.build zeroValue104 runUnderlying104 (Eu _ underlying104) rfl rfl) (by decide) ?_
  exact U 1 O<|w' 1 O O O<|U 5 O<|E6 1 O O O O isAgg104 sizeOf104<|C2<|HJ
 refine U 6 O ?_
 have c5:Bd p l=0:=(by omega)
 obtain rfl:=(h1 c5).symm
 obtain⟨hf_,j9,b6⟩:=A9o c5
 refine have j2:=hf_.2.2.1;have j3:=hf_.1.2.1;fz (x:=p) 0 O O O fun k3 Q C=>have hl:=hl.mono Q;have hblots:=hblots.mono Q;have g:=g.mono Q;q' 1 O<|f' O t'<|i' (An g) O ?_
 obtain⟨d,b3⟩:∃qq__:Nat,(p.Columns:Int)=(qq__:Int):=⟨(p.Columns:Int).toNat,(by omega)⟩
 rw[b3]
 have b3:=b3
 refine G2 (GO d (a:=(⟨()⟩:ColV)) B5I rfl rfl rfl (by omega) (by decide)) (by decide) (fun o=>?_)
 rw[A4F]
 refine U 5 O<|A2m Span 23 d ?_
 have f3:=A9l blots d
 rw[f3]
 refine q' 2 O<|l' hblots O<|U 4 O ?_
 refine J4 (fun(k:Nat)=>blots.length-k) (fun k=>[N4 (L5 23 ((List.replicate d (Value.slice none 0 0))) ((List.replicate d ([]:List Span)))),row (o) 186 2 (d) (P9 (List.replicate d (Value.slice none 0 0)) (Ha blots d k)),blk F 104 [S0]]) (fun k=>[(1,vl),(2,vblots),(3,Pt b1 0),(6,Pt F 0),(8,Pt H 0),(10,o),(36,vblots),(37,J blots.length),(38,J k)]) (fun k=>k≤blots.length∧(∀i,i<k→(0≤gt blots i∧gt blots i≤p.Columns-1)∧(0<i→gt blots (i-1)<gt blots i))) 0 ?_ ?_
 ·exact⟨EF _,fun j hj=>absurd hj (R' _)⟩
 rintro k ⟨hk,hall⟩
 have w:(List.replicate d (Value.slice none 0 0)).length=(Ha blots d k).length:=(by rw[A2j];simp)
 refine q' 2 O<|c' (X.lss O O) (fun h5=>?_) fun h5=>?_
 ·refine U 11 O<|x' k hblots O O fun k4 e1=>i' e1 O<|U 8 O<|f' O t'<|i' (An g) O<|U 1 O<|c' (X.call call74 rfl (AJ _ _ _ _)) (fun h6=>?_) fun h6=>?_
  ·refine U 5 O<|c' (X.gtr O O) (fun h7=>?_) fun h7=>?_
   ·refine U 11 O<|Q9 (T9 (k-1) runUnderlying27 sizeOf3 rfl rfl hblots (by omega) (by omega)) (by decide) fun k5 e2=>U 1 O<|i' e2 O<|U 1 O<|c' (X.leq O O) (fun h8=>?_) fun h8=>?_
    ·refine U 8 O<|WL.x (V:=Value.agg [S0].toArray) (X.build zeroValue104 runUnderlying104 (Eu _ underlying104) rfl rfl) (by decide) ?_
     exact w' 2 O O O<|U 10 O<|E6 2 O O O O isAgg104 sizeOf104<|C2<|HJ
    refine U 8 O ?_
    obtain⟨c_,d7⟩:∃qq__:Nat,(gt blots k:Int)=(qq__:Int):=⟨(gt blots k:Int).toNat,(by omega)⟩
    rw[d7]
    refine q' 3 O<|y' (A9 1 c_)<|f' O t'<|G7 (CN (off:=c_*2+1) (k:=1) sizeOf4 rfl rfl rfl rfl (by rw[Lr w];simp;omega))<|U 8 O ?_
    have f4:((P9 (List.replicate d (Value.slice none 0 0)) (Ha blots d k)).set (c_*2+1) (.bool true))=(P9 (List.replicate d (Value.slice none 0 0)) (Ha blots d (k+1))):=(by rw[Jc _ w,Rl (by omega)])
    rw[f4]
    exact I6 (k+1)<|QG
   refine U 17 O ?_
   obtain⟨c_,d7⟩:∃qq__:Nat,(gt blots k:Int)=(qq__:Int):=⟨(gt blots k:Int).toNat,(by omega)⟩
   rw[d7]
   refine q' 3 O<|y' (A9 1 c_)<|f' O t'<|G7 (CN (off:=c_*2+1) (k:=1) sizeOf4 rfl rfl rfl rfl (by rw[Lr w];simp;omega))<|U 8 O ?_
   have f5:((P9 (List.replicate d (Value.slice none 0 0)) (Ha blots d k)).set (c_*2+1) (.bool true))=(P9 (List.replicate d (Value.slice none 0 0)) (Ha blots d (k+1))):=(by rw[Jc _ w,Rl (by omega)])
   rw[f5]
   exact I6 (k+1)<|QG
  refine U 19 O<|WL.x (V:=Value.agg [S0].toArray) (X.build zeroValue104 runUnderlying104 (Eu _ underlying104) rfl rfl) (by decide) ?_
  exact w' 2 O O O<|U 10 O<|E6 2 O O O O isAgg104 sizeOf104<|C2<|HJ
 refine U 13 O<|l' hl O<|U 4 O ?_
 have f6:k=blots.length:=(by omega)
 rw[f6]
 have hbp_:Ir p blots:=(fun i hi=>hall i (by omega))
 obtain⟨bs,a1⟩:∃q_:List Bool,q_=Ha blots d blots.length:=⟨_,rfl⟩
 rw[←a1]
 have j4:bs.length=d:=(by rw[a1];exact A2j _ _ _)
 have f7:((List.replicate d ([]:List Span)))=(D2 d (fun j=>Ah p l j 0)):=Ov d
 rw[f7]
 refine S5 (fun(k:Nat) (vs:List Value)=>l.length-k) (fun k vs=>[N4 (L5 23 vs (D2 d (fun j=>Ah p l j k))),row (o) 186 2 (d) (P9 vs bs),blk F 104 [S0]]) (fun k vs=>[(3,Pt b1 0),(6,Pt F 0),(8,Pt H 0),(10,o),(68,vl),(69,J l.length),(70,J k)]) (fun k vs=>k≤l.length∧vs.length=d) 0 (List.replicate d (Value.slice none 0 0)) ?_ ?_
 ·exact⟨EF _,by simp⟩
 rintro k vs ⟨hk,a2⟩
 refine N5 (fun b9=>?_)
 have w:vs.length=bs.length:=(by omega)
 refine q' 2 O<|c' (X.lss O O) (fun h9=>?_) fun h9=>?_
 ·refine U 10 O<|x' k hl O O fun c0 e3=>g' e3 O fun k6 e4=>?_
  obtain rfl:=e4
  refine n' zeroValue102 O fun B=>w' 0 O O O<|U 3 O ?_
  have D:=b6 k (by omega)
  refine q' 1 O<|f' O t'<|i' (An g) O ?_
  rw[b3]
  refine G2 (GO d (a:=(⟨Value.slice none 0 0,rfl⟩:RawV)) B5F rfl rfl rfl (by omega) (by decide)) (by decide) (fun s=>?_)
  rw[A0m]
  refine Au (T.alloc zeroValue187 rfl) (by decide) fun z=>?_
  refine E8 (k:=1) rfl (fun e5=>?_)
  refine G7 (C1 (k:=0) sizeOf187 rfl rfl rfl e5 (J' rfl))<|U 4 O<|A2m Span 23 d ?_
  have f8:((List.replicate d ([]:List Span)))=(D2 d (fun j=>T5 p (gt l k) j 0)):=Ov d
  rw[f8]
  refine q' 1 O<|g' C O fun k7 e6=>?_
  obtain rfl:=e6
  refine WL.y (Ma (k:=3) isAgg102 sizeOf102 rfl rfl rfl) ?_
  refine C0 (T.call call75 rfl (B3U _ (f:=p) (t:=gt l k) hf_ D)) (by decide) (fun k8 _ R P=>?_)
  obtain⟨a3,rfl,d8⟩:=P
  refine have g:=g.mono R;have C:=C.mono R;U 3 O<|WK.p [2] ?_
  refine N8 (S:=List Value×List (List Span)) (G:=Nat) (ps:=[80,81]) (n:=Q8 p (gt l k)) (A:=Qo p (gt l k)) rfl call143 d8 (fun x_:List Value×List (List Span)=>[row (s) 184 1 (d) (x_.1),N4 (L5 23 x_.1 x_.2),blk z 187 [s],blk B 102 [J ((gt l k).X),J ((gt l k).Y),J ((gt l k).Half)],N4 (L5 23 vs (D2 d (fun j=>Ah p l j k))),row (o) 186 2 (d) (P9 vs bs),blk F 104 [S0]]) (fun i _ x_=>x_.1.length=d∧x_.2=D2 d (fun j=>T5 p (gt l k) j i)) (fun _ _ _ _=>False) ((List.replicate d (Value.slice none 0 0)),D2 d (fun j=>T5 p (gt l k) j 0)) rfl ⟨by simp,rfl⟩ (fun h=>by cases h) (fun _ _ _ _ _ h=>h) (by simp) (fun i m1 r h=>by rw[show r=_ from h];rfl) (fun b_ r gh=>blk b_ 23 ((r.getD 1 undef).cells.toList)::(fun x_:List Value×List (List Span)=>[row (s) 184 1 (d) (x_.1),N4 (L5 23 x_.1 x_.2),blk z 187 [s],blk B 102 [J ((gt l k).X),J ((gt l k).Y),J ((gt l k).Half)],N4 (L5 23 vs (D2 d (fun j=>Ah p l j k))),row (o) 186 2 (d) (P9 vs bs),blk F 104 [S0]]) gh) (fun b_ r=>(16,r.headD undef)::(17,Pt b_ 0)::[(3,Pt b1 0),(6,Pt F 0),(8,Pt H 0),(10,o),(68,vl),(69,J l.length),(70,J k),(71,.bool true),(72,.pointer (some (c0))),(73,.agg [J ((gt l k).X),J ((gt l k).Y),J ((gt l k).Half)].toArray),(14,Pt B 0),(74,.pointer (some (((⟨b1,0,none⟩:Addr)).add 5))),(75,J d),(76,s),(15,Pt z 0),(77,.agg [J p.Pitch,J p.Height,J p.Radius,J p.Low,J p.High,J p.Columns,J p.Along.Lo,J p.Along.Hi,J p.Across.Lo,J p.Across.Hi].toArray),(78,.agg [J ((gt l k).X),J ((gt l k).Y),J ((gt l k).Half)].toArray),(79,.func (.func 143) #[] a3.toArray)]) ?_ ?_ ?_ ?_ ?_
  ·intro lo B1 i a4 gh r KK h2 e0 u j0
   have d3:r=[J (yK p (gt l k) i),.agg [J (Ag p (gt l k) i).Lo,J (Ag p (gt l k) i).Hi].toArray]:=(by have:=Sd Array.toList (show r.toArray=#[J (yK p (gt l k) i),.agg [J (Ag p (gt l k) i).Lo,J (Ag p (gt l k) i).Hi].toArray]from e0);simpa using this)
   subst d3
   refine qb ?_
   exact q' 6 O<|n' zeroValue23 O fun i0=>w' 0 O O O<|U 2 O<|I8 (.cons rfl (.cons rfl (.cons rfl (.cons rfl (.cons rfl (.cons rfl (.cons rfl (.cons rfl (.cons rfl (.cons rfl (.cons rfl (.cons rfl (.cons rfl (.cons rfl (.cons rfl (.cons rfl (.cons rfl (.cons rfl (.cons rfl (.cons rfl .nil)))))))))))))))))))) (j0 i0)
  ·intro lo B1 i a4 gh r b_ h2 hi u e0 W
   have d3:r=[J (yK p (gt l k) i),.agg [J (Ag p (gt l k) i).Lo,J (Ag p (gt l k) i).Hi].toArray]:=(by have:=Sd Array.toList (show r.toArray=#[J (yK p (gt l k) i),.agg [J (Ag p (gt l k) i).Lo,J (Ag p (gt l k) i).Hi].toArray]from e0);simpa using this)
   subst d3
   obtain⟨us,M_⟩:=gh
   obtain⟨K,b7⟩:=W
   dsimp only at K b7
   subst b7
   have b4:0≤yK p (gt l k) i∧yK p (gt l k) i≤p.Height:=A6P hf_ D hi
   have j5:(-1000000000000≤(Ag p (gt l k) i).Lo∧(Ag p (gt l k) i).Lo≤1000000000000)∧(-1000000000000≤(Ag p (gt l k) i).Hi∧(Ag p (gt l k) i).Hi≤1000000000000):=B1u hf_ D b4
   replace g:=g.mono u
   replace C:=C.mono u
   show WK _ _ a4 [blk b_ 23 [J ((Ag p (gt l k) i).Lo),J ((Ag p (gt l k) i).Hi)],row (s) 184 1 (d) (us),N4 (L5 23 us (D2 d (fun j=>T5 p (gt l k) j i))),blk z 187 [s],blk B 102 [J ((gt l k).X),J ((gt l k).Y),J ((gt l k).Half)],N4 (L5 23 vs (D2 d (fun j=>Ah p l j k))),row (o) 186 2 (d) (P9 vs bs),blk F 104 [S0]] [(16,J (yK p (gt l k) i)),(17,Pt b_ 0),(3,Pt b1 0),(6,Pt F 0),(8,Pt H 0),(10,o),(68,vl),(69,J l.length),(70,J k),(71,.bool true),(72,.pointer (some (c0))),(73,.agg [J ((gt l k).X),J ((gt l k).Y),J ((gt l k).Half)].toArray),(14,Pt B 0),(74,.pointer (some (((⟨b1,0,none⟩:Addr)).add 5))),(75,J d),(76,s),(15,Pt z 0),(77,.agg [J p.Pitch,J p.Height,J p.Radius,J p.Low,J p.High,J p.Columns,J p.Along.Lo,J p.Along.Hi,J p.Across.Lo,J p.Across.Hi].toArray),(78,.agg [J ((gt l k).X),J ((gt l k).Y),J ((gt l k).Half)].toArray),(79,.func (.func 143) #[] a3.toArray)] _
   refine qb ?_
   refine q' 3 O<|f' O t'<|b' 0 O O O<|y' (EG rfl rfl)<|U 4 O ?_
   obtain⟨d9,c8⟩:∃qq__:Nat,(max ((Ag p (gt l k) i).Lo) 0:Int)=(qq__:Int):=⟨(max ((Ag p (gt l k) i).Lo) 0:Int).toNat,(by omega)⟩
   rw[c8]
   have f9:(D2 d (fun j=>T5 p (gt l k) j i))=(BK p (gt l k) d i d9):=A2V (by omega)
   rw[f9]
   refine S5 (fun(c:Nat) (us:List Value)=>d-c) (fun c us=>[blk b_ 23 [J ((Ag p (gt l k) i).Lo),J ((Ag p (gt l k) i).Hi)],row (s) 184 1 (d) (us),N4 (L5 23 us (BK p (gt l k) d i c)),blk z 187 [s],blk B 102 [J ((gt l k).X),J ((gt l k).Y),J ((gt l k).Half)],N4 (L5 23 vs (D2 d (fun j=>Ah p l j k))),row (o) 186 2 (d) (P9 vs bs),blk F 104 [S0]]) (fun c us=>[(3,Pt b1 0),(6,Pt F 0),(8,Pt H 0),(10,o),(15,Pt z 0),(16,J (yK p (gt l k) i)),(17,Pt b_ 0),(18,J c),(68,vl),(69,J l.length),(70,J k)]) (fun c us=>d9≤c∧us.length=d) d9 us ?_ ?_
   ·exact⟨E' _,K⟩
   rintro c us ⟨c8,b8⟩
   refine N5 (fun c1=>?_)
   refine q' 4 O<|f' O t'<|b' 0 O O O<|f' O t'<|i' (An g) O<|U 1 O<|y' (Hw rfl rfl)<|c' (X.leq O O) (fun i1=>?_) fun i1=>?_
   ·refine U 7 O ?_
    have I:c<d:=(by omega)
    have a0:=Ql hf_ D (c:Int) (k:=i) (by omega)
    refine A0F (k:=2) (i:=c) O (by rw[HC];omega) (by rw[HC];omega)<|B9 7 [6] [6]<|Z O O (A.b 4 O O O)<|U' 1 O<|Z O O (A9 2 c)<|G' C O O O fun k9 e7=>?_
    obtain rfl:=e7
    refine U' 1 O<|Z O O (X.call call77 rfl (B1S _ _ p rfl _ hf_ b4)) ?_
    refine DH rfl rfl rfl rfl (K5 [2,0] call76 O (B4e _ (xs:=us) (off:=c*1) (L:=gt (BK p (gt l k) d i c) c) (by rw[SD];exact S9 (by omega)) (by rw[A1u I];exact a0.bd) (by rw[A1u I];have:=a0.len;omega) (Re hf_ b4))) (by decide) (fun l0 i2 u_ a6 P=>?_)
    obtain⟨rfl,i8,c9,k0⟩:=P
    rw[SD]at c9
    subst c9
    refine have g:=g.mono a6;V' 2 O<|WK.p [1]<|A1E (k:=2) (i:=c) (vs:=us) (M:=BK p (gt l k) d i c) O (by rw[HC];omega) (by rw[HC];omega) ?_
    have g0:((BK p (gt l k) d i c).set c (Bi (gt (BK p (gt l k) d i c) c) ⟨T0 p ((yK p (gt l k) i)),T0 p ((yK p (gt l k) i))⟩))=(BK p (gt l k) d i (c+1)):=A4Y (by omega) (by omega) I
    rw[g0]
    exact q' 6 O<|G9 c1 a6<|WK.p [1]<|K2 (c+1) (us.set c i8)<|⟨by omega,by rw[I'];exact b8⟩
   refine U 8 O ?_
   have g1:(BK p (gt l k) d i c)=(D2 d (fun j=>T5 p (gt l k) j (i+1))):=A8V (fun j hj hc=>by omega)
   rw[g1]
   exact P6 (us,D2 d (fun j=>T5 p (gt l k) j (i+1))) (Mem.le_refl _) (.cons _ (.refl _)) ⟨by simpa using b8,rfl⟩
  ·intro a4 gh u W
   obtain⟨us,M_⟩:=gh
   obtain⟨K,b7⟩:=W
   dsimp only at K b7
   subst b7
   refine have g:=g.mono u;I8 (σ':=[(3,Pt b1 0),(6,Pt F 0),(8,Pt H 0),(10,o),(68,vl),(69,J l.length),(70,J k),(71,.bool true),(72,.pointer (some (c0))),(73,.agg [J ((gt l k).X),J ((gt l k).Y),J ((gt l k).Half)].toArray),(14,Pt B 0),(74,.pointer (some (((⟨b1,0,none⟩:Addr)).add 5))),(75,J d),(76,s),(15,Pt z 0),(77,.agg [J p.Pitch,J p.Height,J p.Radius,J p.Low,J p.High,J p.Columns,J p.Along.Lo,J p.Along.Hi,J p.Across.Lo,J p.Across.Hi].toArray),(78,.agg [J ((gt l k).X),J ((gt l k).Y),J ((gt l k).Half)].toArray),(79,.func (.func 143) #[] a3.toArray)]) (.cons rfl (.cons rfl (.cons rfl (.cons rfl (.cons rfl (.cons rfl (.cons rfl (.cons rfl (.cons rfl (.cons rfl (.cons rfl (.cons rfl (.cons rfl (.cons rfl (.cons rfl (.cons rfl (.cons rfl (.cons rfl .nil)))))))))))))))))) ?_
   show WK _ _ a4 [row (s) 184 1 (d) (us),N4 (L5 23 us (D2 d (fun j=>T5 p (gt l k) j (Q8 p (gt l k))))),blk z 187 [s],blk B 102 [J ((gt l k).X),J ((gt l k).Y),J ((gt l k).Half)],N4 (L5 23 vs (D2 d (fun j=>Ah p l j k))),row (o) 186 2 (d) (P9 vs bs),blk F 104 [S0]] [(3,Pt b1 0),(6,Pt F 0),(8,Pt H 0),(10,o),(68,vl),(69,J l.length),(70,J k),(71,.bool true),(72,.pointer (some (c0))),(73,.agg [J ((gt l k).X),J ((gt l k).Y),J ((gt l k).Half)].toArray),(14,Pt B 0),(74,.pointer (some (((⟨b1,0,none⟩:Addr)).add 5))),(75,J d),(76,s),(15,Pt z 0),(77,.agg [J p.Pitch,J p.Height,J p.Radius,J p.Low,J p.High,J p.Columns,J p.Along.Lo,J p.Along.Hi,J p.Across.Lo,J p.Across.Hi].toArray),(78,.agg [J ((gt l k).X),J ((gt l k).Y),J ((gt l k).Half)].toArray),(79,.func (.func 143) #[] a3.toArray)] _
   refine P4<|E2<|q' 1 O ?_
   refine A3y (α:=Span) (k:=0) (M:=D2 d (fun j=>T5 p (gt l k) j (Q8 p (gt l k)))) rfl rfl (B5 _ _).symm (by rw[B5];exact K) (A6n hf_ D) (by rw[B5];unfold C7;omega) (fun l1 a7 e8=>?_)
   replace g:=g.mono a7
   have j6:(D2 d (fun j=>T5 p (gt l k) j (Q8 p (gt l k)))).length=d:=B5 _ _
   refine q' 2 O<|y' (U5 (k:=3) runUnderlying182 rfl rfl)<|U 4 O ?_
   have g2:(D2 d (fun j=>Ah p l j k))=(Cm p l d k 0):=A5g p l d k
   rw[g2]
   refine S5 (fun(q:Nat) (vs:List Value)=>d-q) (fun q vs=>[blk z 187 [s],blk B 102 [J ((gt l k).X),J ((gt l k).Y),J ((gt l k).Half)],N4 (L5 23 vs (Cm p l d k q)),row (o) 186 2 (d) (P9 vs bs),blk F 104 [S0]]) (fun q vs=>[(3,Pt b1 0),(6,Pt F 0),(8,Pt H 0),(10,o),(15,Pt z 0),(68,vl),(69,J l.length),(70,J k),(103,J d),(104,J q)]) (fun q vs=>q≤d∧vs.length=d) 0 vs ?_ ?_
   ·exact⟨EF _,a2⟩
   rintro q vs ⟨hq,a2⟩
   refine N5 (fun c2=>?_)
   have w:vs.length=bs.length:=(by omega)
   refine q' 2 O<|c' (X.lss O O) (fun i3=>?_) fun i3=>?_
   ·refine U 14 O ?_
    have E:q<d:=(by omega)
    have g3:=A3E hf_ b6 (q:Int) k (by omega)
    refine have a0:=Ql hf_ D (q:Int) (E' _);A0F (k:=2) (i:=q) O (by rw[HH];omega) (by rw[HH];omega)<|B9 10 [9] [9]<|U' 2 O<|Z O O (A9 4 q)<|Z O O (A.f O)<|Z O O (A.b 1 O O O)<|U' 1 O<|X' q e8 O O O O fun l2 e9=>Z O O (A.f O)<|S' (At.zero e9) O O O fun l3 c4=>?_
    have j7:=c4.le
    refine DH rfl rfl rfl rfl (K5 [4,0] call78 O (B5z _ (xs:=P9 vs bs) (off:=q*2) (L:=gt (Cm p l d k q) q) (Rt w (by omega)) (by rw[A1O E];exact g3) c4 (by rw[N7 _ E];exact a0))) (by decide) (fun l4 i2 u_ a8 P=>?_)
    obtain⟨rfl,i9,d0,k1⟩:=P
    rw[RT _ w]at d0
    subst d0
    refine have g:=g.mono a8;V' 2 O<|WK.p [1]<|A1E (k:=3) (i:=q) (vs:=vs) (M:=Cm p l d k q) O (by rw[HH];omega) (by rw[HH];omega) ?_
    have g4:((Cm p l d k q).set q (K4 ((gt (Cm p l d k q) q)++(gt (D2 d (fun j=>T5 p (gt l k) j (Q8 p (gt l k)))) q))))=(Cm p l d k (q+1)):=A4L E (N7 _ E)
    rw[g4]
    exact q' 5 O<|G9 c2 a8<|WK.p [1,1,1]<|K2 (q+1) (vs.set q i9)<|⟨by omega,by rw[I'];exact a2⟩
   refine U 15 O ?_
   have d4:q=d:=(by omega)
   have g5:(Cm p l d k q)=(D2 d (fun j=>Ah p l j (k+1))):=(by rw[d4];exact A7o p l d k)
   rw[g5]
   exact G9 b9 (Mem.le_trans R (Mem.le_trans u a7))<|K2 (k+1) vs<|⟨by omega,by assumption⟩
  ·intro i m1 gh j1 hi W
   exact W.elim
  intro id i m1 gh j1 hi W
  exact W.elim
 refine U 11 O<|f' O t'<|i' (An g) O ?_
 rw[b3]
 refine G2 (GO d (a:=(⟨Value.slice none 0 0,rfl⟩:RawV)) Lq rfl rfl rfl (by omega) (by decide)) (by decide) (fun a9=>?_)
 rw[A0m]
 refine E8 (k:=0) rfl (fun f0=>?_)
 refine WL.y (V:=Value.agg [a9].toArray) (X.build zeroValue104 runUnderlying104 (Eu _ underlying104) rfl (by simp only[Instr.fill,D7 f0];rfl)) ?_
 refine n' zeroValue104 O fun f1=>w' 0 O O O<|U 4 O ?_
 have g6:k=l.length:=(by omega)
 have g7:(D2 d (fun j=>Ah p l j k))=(D2 d (fun j=>Ah p l j l.length)):=(by rw[g6])
 rw[g7]
 refine A0p (k:=2) rfl rfl (by rw[B5];exact a2) (A5L hf_ b6) (fun b0 i4 d1=>?_)
 have d5:RdL b0 (List.replicate d (Value.slice none 0 0)) (EH p l blots d 0):=(by rw[←A5n];exact A7n _ _)
 refine q' 2 O<|y' (U5 (k:=2) runUnderlying182 rfl rfl)<|U 4 O ?_
 refine S5 (fun(q:Nat) (ws:List Value)=>d-q) (fun q ws=>[blk f1 104 [a9],row (a9) 28 1 (d) (ws),row (o) 186 2 (d) (P9 vs bs),blk F 104 [S0]]) (fun q ws=>[(6,Pt F 0),(20,Pt f1 0),(123,o),(124,J d),(125,J q)]) (fun q ws=>q≤d∧RdL b0 ws (EH p l blots d q)∧∀j:Nat,j<q→(Gx p l blots j).length≤8) 0 (List.replicate d (Value.slice none 0 0)) ?_ ?_
 ·exact⟨EF _,d5,fun j hj=>absurd hj (R' _)⟩
 rintro q ws ⟨hq,N,hin_⟩
 have j8:ws.length=d:=(by have h_:=N.1;rw[HO]at h_;exact h_.trans (SD _))
 refine q' 2 O<|c' (X.lss O O) (fun i5=>?_) fun i5=>?_
 ·refine U 11 O<|y' (A9 2 q) ?_
  have b5:Sl b0 (gt vs q) (Ah p l q l.length):=(by have h_:=d1 q (by rw[B5];omega);rwa [N7 _ (by omega)]at h_)
  refine WL.y (V:=.agg [gt vs q,.bool (gt bs q)].toArray) (Fl (k:=2) (us:=[gt vs q,.bool (gt bs q)]) isAgg186 sizeOf186 rfl rfl rfl (B3w (Rt (by omega) (by omega)) (A4y (by omega) (by omega)))) ?_
  refine n' zeroValue186 O fun l5=>U 1 O<|w' 0 O O O<|U 6 O<|f' O t' ?_
  refine J6 (BZ (k:=0) isAgg4 rfl rfl rfl) (by decide) (fun d2=>?_) (fun d2=>?_)
  ·have hyb_:(q:Int)∈blots:=(by have h_:=d2;rw[a1,A6z (by omega)]at h_;exact Sv h_)
   refine U 14 O ?_
   have hstep_:RdL b0 ws (EH p l blots d (q+1)):=(by rw[←A6E (Rc hyb_)];exact N)
   exact K2 (q+1) ws<|QJ
  have hnb_:¬(q:Int)∈blots:=(by have h_:=d2;rw[a1,A6z (by omega)]at h_;exact Th h_)
  refine U 6 O<|f' O t'<|f' O t'<|b' 0 O O O<|l' b5 O<|c' (X.gtr O O) (fun i6=>?_) fun i6=>?_
  ·refine U 6 O<|WL.x (V:=Value.agg [S0].toArray) (X.build zeroValue104 runUnderlying104 (Eu _ underlying104) rfl rfl) (by decide) ?_
   exact w' 4 O O O<|U 11 O<|E6 4 O O O O isAgg104 sizeOf104<|C2<|HJ
  refine U 8 O<|f' O t'<|b' 1 O O O<|U 1 O<|f' O t'<|f' O t'<|b' 0 O O O<|y' (A9 2 q)<|G7 (CN (off:=q*1) (k:=2) sizeOf28 rfl rfl rfl b5.one (by omega))<|U 8 O ?_
  have g8:(ws.set (q*1) (gt vs q))=(ws.set q (gt vs q)):=(by rw[SD])
  rw[g8]
  have hstep_:RdL b0 (ws.set q (gt vs q)) (EH p l blots d (q+1)):=(by have h_:=A7w N b5 (i:=q) (by rw[HO];omega);rwa [A6i (Kh hnb_).symm]at h_)
  exact K2 (q+1) (ws.set q (gt vs q))<|QJ
 refine U 10 O ?_
 have E:q=d:=(by omega)
 rw[E]at N hin_
 have d6:row a9 28 1 d ws=row a9 28 1 (EH p l blots d d).length ws:=(by rw[HO])
 rw[d6]
 have g9:OS p l blots:=(fun c hc=>hin_ c (by omega))
 refine q' 1 O<|a' 0 O O<|w' 3 O O O<|U 4 O ?_
 refine M7 1 rfl rfl N (by rw[HO];unfold C7;omega) (fun l6 i7 f2=>?_)
 refine E6 2 rfl rfl rfl rfl isAgg104 sizeOf104<|C2 ?_
 have c7:=B1Z (show¬Bd p l≠0 by omega) hbp_ g9
 have h0:=A9k p l blots d
 have I:p.Columns.toNat=d:=(by omega)
 exact⟨_,G4 rfl (B0 c7.symm),by rw[A1Z c7,I,←h0];exact⟨_,rfl,f2⟩⟩
end Go.Proofs.T10
