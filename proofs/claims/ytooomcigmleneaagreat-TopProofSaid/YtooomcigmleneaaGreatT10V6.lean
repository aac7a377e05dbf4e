import Derived.Test.YtooomcigmleneaaGreatT10W40
import Derived.Test.YtooomcigmleneaaGreatT10W52
set_option linter.all false
set_option maxHeartbeats 8000000
namespace Go.Proofs.S10
open Tryz Go Go.Kx Go.Proofs.T10
set_option maxRecDepth 20000
theorem GQ{G:Prop}(h:G:=by first|rfl|(exfalso;omega)|(exfalso;contradiction)|exact(D5 (by omega)).symm):G:=h
theorem law6(m:Mem)(cb:List Value)(b:BaseT)(hb:Enc.rd m cb b)(vl:Value)(l:List NoteT)(hl:Sl m vl l)(week:Int)(sheet:Int)(ok0:Rng.ok b)(ok1:Rng.ok l)(lo2: -9223372036854775808≤week)(hi2:week≤9223372036854775807)(lo3: -9223372036854775808≤sheet)(hi3:sheet≤9223372036854775807):Exact prog 6 #[.agg cb.toArray,vl,J week,J sheet] m (.bool true):=by
 obtain⟨v1,rfl,c4⟩:=hb
 refine have i7:=c4.le;have ll:=hl.le;D4 func6 O ntmps6 fun h6=>q' 2 O<|o' O O fun b4=>U 4 O<|fz (x:=b) 0 O O ⟨_,rfl,c4⟩ fun m5 a7 e0=>have hl:=hl.mono a7;q' 1 O<|y' (X.call call7 rfl (B3u _))<|U 5 O<|g' e0 O fun c8 e1=>?_
 obtain⟨i8,rfl,M⟩:=e1
 refine have f5:=M.le;U 2 O<|C0 (T.call call13 rfl (A9a _ _ b ⟨_,rfl,M⟩ _ _ hl _)) (by decide) fun h7 h8 e2 a8=>?_
 obtain⟨i9,j0,j1,a,c5,rfl,c6,c7,c9⟩:=a8
 obtain⟨d0,d1,d2,d3,rfl,d4,d5,d6,d7⟩:=c6
 have f6:=d4.le
 have f7:=d5.le
 have f8:=d6.le
 have f9:=d7.le
 obtain⟨j2,j3,j4,rfl,N,P,Q⟩:=c7
 refine have g0:=N.le;have g1:=P.le;have g2:=Q.le;U 4 O<|n' zeroValue58 O fun a9=>n' zeroValue60 O fun b0=>w' 1 O O O<|w' 0 O O O<|U 5 O<|fz (x:=a) 0 O O ⟨_,_,_,rfl,N,P,Q⟩ fun h9 e3 c=>q' 2 O ?_
 refine J6 (X.not rfl) (by decide) (fun e4=>?_) (fun e4=>?_)
 ·exact U 22 O<|A0 O O<|A8<|GQ
 refine U 4 O<|c' (X.lss O O) (fun e5=>?_) fun e5=>?_
 ·exact U 19 O<|A0 O O<|A8<|GQ
 refine U 5 O<|f' O t'<|U 1 O<|s' (X7 c) O fun i0 H=>have g3:=H.le;U 1 O<|l' H O<|U 1 O<|c' (X.geq O O) (fun e6=>?_) fun e6=>?_
 ·exact U 12 O<|A0 O O<|A8<|GQ
 refine U 7 O ?_
 have E:=(c9 (by have s:(!c5)=false:=‹_›;cases hq2_:c5 with|true=>rfl|false=>rw[hq2_]at s;exact absurd s (by decide))).1
 obtain⟨k,f1⟩:∃q_:Nat,sheet=(q_:Int):=⟨sheet.toNat,by omega⟩
 rw[f1]
 have v:k<a.Sheets.length:=(by omega)
 refine have n:=B2w E v;q' 1 O<|g' c O fun i1 b1=>?_
 obtain⟨j5,j6,j7,rfl,R,S,V⟩:=b1
 refine have g4:=R.le;have g5:=S.le;have g6:=V.le;U 1 O ?_
 refine C0 (T.call call16 rfl (B0I _ _ a ⟨_,_,_,rfl,R,S,V⟩ rfl v n E)) (by decide) (fun i2 _ a2 q=>?_)
 obtain⟨j8,L72,rfl,h2⟩:=q
 refine have c:=c.mono a2;U 9 O<|g' c O fun i3 b2=>?_
 obtain⟨j9,k0,k1,rfl,W,Y,a0⟩:=b2
 refine have g7:=W.le;have g8:=Y.le;have g9:=a0.le;U 1 O ?_
 refine C0 (T.call call17 rfl (B0Z _ _ a ⟨_,_,_,rfl,W,Y,a0⟩ rfl v n E)) (by decide) (fun b3 _ a3 q=>?_)
 obtain⟨d8,rfl,d⟩:=q
 refine have c:=c.mono a3;have h0:=d.le;U 11 O<|e' (X.neq O O) (fun e7=>?_) fun e7=>?_
 ·exact U 12 O<|y' (OpX.t (X.eql rfl rfl) (B4M ‹_›))<|U 6 O<|A0 O O<|A8<|GQ
 refine U 7 O ?_
 have w:FD a (gt a.Sheets k)=0:=(by omega)
 have c1:=B6J n w
 have c2:=n.pen
 unfold M9 at c2
 refine q' 4 O<|l' d O<|U 1 O<|y' (OpX.f (A6D underlying4 rfl rfl) (fun s=>s (decide_eq_decide.2 c1)))<|U 7 O<|f' O t'<|s' (X7 c) O fun i4 hs93=>have h1:=hs93.le;U 1 O<|x' k hs93 O O fun i5 b5=>f' O t'<|have c3:=Q4 (CE b5);f' O t'<|g' c3 O fun i6 a4=>?_
 obtain rfl:=a4
 refine n' zeroValue33 O fun u=>w' 0 O O O<|U 5 O<|f' O t'<|f' O t'<|b' 0 O O O<|U 4 O ?_
 refine lp2 (fun(z:Int) (mm:Mem)=>((gt a.Sheets k).Sheet.Pen.Zero.Hi+1-z).toNat) (fun z mm=>mm) (fun z mm=>[blk u 33 [J ((((gt a.Sheets k).Sheet).Pen).Band),J (((((gt a.Sheets k).Sheet).Pen).Zero).Lo),J (((((gt a.Sheets k).Sheet).Pen).Zero).Hi),J ((((gt a.Sheets k).Sheet).Pen).Rate)],blk a9 58 [d0,d1,d2,d3]]) (fun z mm=>[(3,J k),(9,.bool true),(11,Pt b0 0),(15,d8),(17,Pt u 0),(18,J z)]) (fun z mm=>((gt a.Sheets k).Sheet.Pen.Zero.Lo≤z∧z≤(gt a.Sheets k).Sheet.Pen.Zero.Hi+1)∧b3.le mm) (((((gt a.Sheets k).Sheet).Pen).Zero).Lo) b3 ?_ ?_
 ·exact⟨⟨Si _,by omega⟩,Mem.le_refl _⟩
 rintro z mm ⟨k2,F⟩
 refine have c:=c.mono F;have d:=d.mono F;q' 4 O<|f' O t'<|f' O t'<|b' 0 O O O<|c' (X.leq O O) (fun b6=>?_) fun b6=>?_
 ·refine U 8 O ?_
  have A:(gt a.Sheets k).Sheet.Pen.Zero.Lo≤z∧z≤(gt a.Sheets k).Sheet.Pen.Zero.Hi:=(by omega)
  refine have L:=B6Z n w A;q' 1 O<|g' c O fun f2 a5=>?_
  obtain⟨h3,h4,h5,rfl,hs107,C,D⟩:=a5
  refine have e8:=hs107.le;have e9:=C.le;have f0:=D.le;U 2 O ?_
  refine C0 (T.call call18 rfl (B1v _ _ a ⟨_,_,_,rfl,hs107,C,D⟩ rfl v n E A)) (by decide) (fun f3 _ o q=>?_)
  obtain⟨d9,rfl,p⟩:=q
  refine have d:=d.mono o;U 3 O<|n' zeroValue79 O fun I=>w' 0 O O O<|U 5 O<|a' 0 O O ?_
  refine C0 (T.call call19 rfl (B1B _ (t:=((TrackT.mk (Gc a (gt a.Sheets k) z)))) ⟨_,rfl,p⟩ L)) (by decide) (fun y _ g q=>?_)
  obtain⟨_,rfl,a1,rfl,r⟩:=q
  replace d:=d.mono g
  replace p:=p.mono g
  replace r:Sl y a1 (HT (Gc a (gt a.Sheets k) z)):=r
  refine U 3 O<|n' zeroValue84 O fun K=>w' 0 O O O<|U 15 O ?_
  refine S5 (fun(i:Nat) (b:Bool)=>(FG a (gt a.Sheets k)).length-i) (fun i b=>[blk K 84 [a1],blk I 79 [d9],blk u 33 [J ((((gt a.Sheets k).Sheet).Pen).Band),J (((((gt a.Sheets k).Sheet).Pen).Zero).Lo),J (((((gt a.Sheets k).Sheet).Pen).Zero).Hi),J ((((gt a.Sheets k).Sheet).Pen).Rate)],blk a9 58 [d0,d1,d2,d3]]) (fun i b=>[(3,J k),(9,.bool true),(11,Pt b0 0),(15,d8),(17,Pt u 0),(18,J z),(19,Pt I 0),(20,J (FD a (gt a.Sheets k))),(21,Pt K 0),(22,J (GL (Gc a (gt a.Sheets k) z))),(23,.bool (b)),(24,J i)]) (fun i b=>i≤(FG a (gt a.Sheets k)).length∧(b=true↔∃j_,j_<i∧gt (FG a (gt a.Sheets k)) j_=z)) 0 false ?_ ?_
  ·exact⟨EF _,⟨fun s=>Bool.noConfusion s,fun⟨_,s,_⟩=>absurd s (R' _)⟩⟩
  rintro i b ⟨hi,G⟩
  refine q' 5 O<|l' d O<|c' (X.lss O O) (fun b7=>?_) fun b7=>?_
  ·refine U 9 O ?_
   refine J6 (X.move rfl) (by decide) (fun b8=>?_) (fun b8=>?_)
   ·refine U 17 O<|K2 (i+1) true ?_
    first|exact⟨by omega,A5d ‹_›⟩|exact⟨by omega,A1V G ‹_›⟩
   refine U 5 O<|x' i d O O fun f4 a6=>U 1 O<|i' a6 O<|U 3 O<|c' (X.eql O O) (fun b9=>?_) fun b9=>?_
   ·refine U 11 O<|K2 (i+1) true ?_
    first|exact⟨by omega,A5d ‹_›⟩|exact⟨by omega,A1V G ‹_›⟩
   exact U 11 O<|K2 (i+1) false<|⟨by omega,B5s G ‹_› ‹_›⟩
  refine U 9 O ?_
  obtain rfl:i=(FG a (gt a.Sheets k)).length:=(by omega)
  refine have B:=B1w n w A G;q' 2 O<|y' (OpX.f (X.neq rfl rfl) (fun s=>s w))<|U 8 O<|y' (OpX.f (A6D underlying4 rfl rfl) (fun s=>s B))<|U 5 O ?_
  refine J6 (X.not rfl) (by decide) (fun c0=>?_) (fun c0=>?_)
  ·exact U 5 O<|y' (OpX.f (X.neq rfl rfl) (fun s=>s (B0g B ‹_›)))<|U 3 O<|a' 1 O O<|U 1 O<|a' 0 O O<|U 1 O<|y' (X.call call20 rfl (A4H _ _ ((TrackT.mk (Gc a (gt a.Sheets k) z))) ⟨_,rfl,p⟩ _ ((ProofT.mk (HT (Gc a (gt a.Sheets k) z)))) ⟨_,rfl,r⟩ (A7I L (B0g B ‹_›))))<|U 19 O<|K2 (z+1) y<|⟨by omega,(Mem.le_trans F (Mem.le_trans o g))⟩
  exact U 25 O<|K2 (z+1) y<|⟨by omega,(Mem.le_trans F (Mem.le_trans o g))⟩
 exact U 15 O<|A0 O O<|A8<|GQ
end Go.Proofs.S10
