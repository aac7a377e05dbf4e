import Derived.Test.YtooomcigmleneaaGreatKxW
import Derived.Test.YtooomcigmleneaaGreatKyP
import Derived.Test.YtooomcigmleneaaGreatT10Ty
import Derived.Test.YtooomcigmleneaaGreatKxU
import Derived.Test.YtooomcigmleneaaGreatT10W23
set_option linter.all false
namespace Go.Proofs.S10
open Tryz
set_option maxRecDepth 20000
open Go Go.Kx Go.Proofs.T10
variable{G:Prop}{id:Int}{l:List Station}
theorem B1J(m:Mem)(ch:List Value)(h:Height)(hh:Enc.rd m ch h)(week:Int):Exact prog 300 #[.agg ch.toArray,J week] m (J (S7 h.Week week)):=by
 obtain rfl:=hh
 refine C7 func300 r' ntmps300 fun wld=>q' 2 r'<|o' r' r' fun b1=>v' 5 r'<|f' r' t'<|b' 0 r' r' r'<|v' 1 r'<|y' (X.call call88 rfl (A0u _ _ _))<|v' 4 r'<|A0 r' r'<|A7 ?_
 first|rfl|(simp[*];done)
theorem A7C(h:G:=by first|exact F8 (A8 (by rw[hlow])) (D5 (by rw[hlow,B1T];omega))|exact F8 (A8 (by rw[hlow])) (A9 (by rw[hlow];omega))):G:=h
theorem B7N(m:Mem)(vl:Value)(L:List Height)(hl:Sl m vl L)(week:Int)(hsort:B4c L):Exact prog 299 #[vl,J week,Fc 300] m (.tuple #[.int .i64 ↑(A6j L week),.bool (decide (A6j L week<L.length∧(gt L (A6j L week)).Week=week))]):=by
 refine have hll:=hl.le;C7 func299 r' ntmps299 fun wld=>q' 9 r'<|l' hl r'<|v' 12 r' ?_
 refine O6 (fun(i:Nat) (j:Nat)=>j-i) (fun i j=>[]) (fun i j=>[(0,vl),(1,J week),(2,.func (.func 300) #[] [].toArray),(8,J L.length),(9,J i),(10,J j)]) (fun i j=>(i≤j∧j≤L.length)∧(∀k,k<i→(gt L k).Week<week)∧(∀k,j≤k→k<L.length→week≤(gt L k).Week)) 0 L.length ?_ ?_
 ·exact⟨by omega,fun k hk=>by omega,fun k h1 h2=>by omega⟩
 rintro i j ⟨hij,hlo,hhi⟩
 refine q' 5 r'<|c' (X.lss r' r') (fun h2=>?_) fun h2=>?_
 ·refine v' 11 r'<|y' (M0 runUnderlying3 runUnderlying358 rfl (Q1 (by omega) (by omega)))<|y' (C6K rfl rfl (by omega))<|y' (M0 runUnderlying358 runUnderlying3 rfl (M9 (by omega) (by omega)))<|v' 8 r'<|P5 (Q4 ((i+j)/2) runUnderlying126 sizeOf198 rfl rfl hl (by omega) (by omega)) (by decide) fun p3 hp4=>g' hp4 r' fun c5 hc6=>?_
  obtain rfl:=hc6
  refine v' 1 r'<|y' (D6 call300 rfl rfl (B1J _ _ (gt L ((i+j)/2)) rfl _))<|c' (X.lss r' r') (fun h7=>?_) fun h7=>?_
  ·refine v' 10 r'<|J7 ((i+j)/2+1) j ?_
   first
    |exact⟨by omega,(fun k hk=>by
     have h1:=A4z.1 ‹_›
     rcases Nat.lt_or_ge k ((i+j)/2)with h2|h2
     ·have h3:=A1f hsort h2 (by omega)
      omega
     ·have h4:k=(i+j)/2:=(by omega)
      rw[h4];exact h1),hhi⟩
    |exact⟨by omega,hlo,(fun k h1 h2=>by
     have h3:week≤(gt L ((i+j)/2)).Week:=Int.not_lt.1 (fun h=>absurd (A4z.2 h) ‹_›)
     rcases Nat.lt_or_ge ((i+j)/2) k with h4|h4
     ·have h5:=A1f hsort h4 h2
      omega
     ·have h5:k=(i+j)/2:=(by omega)
      rw[h5];exact h3)⟩
  refine v' 9 r'<|J7 i ((i+j)/2) ?_
  first
   |exact⟨by omega,(fun k hk=>by
    have h1:=A4z.1 ‹_›
    rcases Nat.lt_or_ge k ((i+j)/2)with h2|h2
    ·have h3:=A1f hsort h2 (by omega)
     omega
    ·have h4:k=(i+j)/2:=(by omega)
     rw[h4];exact h1),hhi⟩
   |exact⟨by omega,hlo,(fun k h1 h2=>by
    have h3:week≤(gt L ((i+j)/2)).Week:=Int.not_lt.1 (fun h=>absurd (A4z.2 h) ‹_›)
    rcases Nat.lt_or_ge ((i+j)/2) k with h4|h4
    ·have h5:=A1f hsort h4 h2
     omega
    ·have h5:k=(i+j)/2:=(by omega)
     rw[h5];exact h3)⟩
 refine v' 13 r'<|c' (X.lss r' r') (fun h8=>?_) fun h8=>?_
 ·refine v' 8 r'<|x' i hl r' r' fun p9 hp10=>v' 1 r'<|g' hp10 r' fun c11 hc12=>?_
  obtain rfl:=hc12
  refine v' 3 r'<|y' (D6 call300 rfl rfl (B1J _ _ (gt L i) rfl _))<|v' 8 r'<|B6 r' r' r'<|A7 ?_
  have hlow:A6j L week=i:=B5E (by omega) hlo (fun h=>hhi i (by omega) h)
  exact A7C
 refine v' 15 r'<|B6 r' r' r'<|A7 ?_
 have hlow:A6j L week=i:=B5E (by omega) hlo (fun h=>hhi i (by omega) h)
 exact A7C
theorem A6X(h:G:=by first|exact A2C (by rw[A6P hs0 hk0 hsp.1 hk1 hk2]) (by rw[A6P hs0 hk0 hsp.1 hk1 hk2])|exact A2C (by rw[A7p (k:=k) hs0 (by omega) (by omega)]) (by rw[A7p (k:=k) hs0 (by omega) (by omega)])):G:=h
theorem B8w(m:Mem)(cs:List Value)(s:Station)(hs:Enc.rd m cs s)(week:Int)(hs0:Z3 s.Heights)(hw0:0≤week):Exact prog 251 #[.agg cs.toArray,J week] m (.agg [J ((O8 s week).Lo),J ((O8 s week).Hi)].toArray):=by
 obtain⟨v1,rfl,hs2⟩:=hs
 refine have hl3:=hs2.le;have hsort:=A3P hs0;C7 func251 r' ntmps251 fun wld=>q' 2 r'<|o' r' r' fun b4=>n' zeroValue23 r' fun b5=>v' 4 r'<|f' r' t'<|b' 1 r' r' r'<|v' 1 r'<|y' (X.call call299 rfl (B7N _ _ _ hs2 week hsort))<|v' 6 r' ?_
 obtain⟨k,hk⟩:∃k,A6j s.Heights week=k:=⟨_,rfl⟩
 rw[hk]
 have hsp:=B8l hk
 have hq1:=hs0.1
 have hq2:=(hs0.2 0 (by omega)).1 rfl
 refine L9<|q' 4 r'<|e' (A0l rfl) (fun h6=>?_) fun h6=>?_
 ·refine v' 3 r' ?_
  have hns:¬(k<s.Heights.length∧(gt s.Heights k).Week=week):= ‹_›
  have hk0:0<k:=(by rcases Nat.eq_zero_or_pos k with h0|h0;have h1:=hsp.2.2 (by omega);rw[h0]at h1;exact absurd ⟨by omega,by rw[h0];omega⟩ hns;exact h0)
  have hk1:=hsp.2.1 (k-1) (by omega)
  have hk2:k<s.Heights.length→week<(gt s.Heights k).Week:=(fun h0=>by have h1:=hsp.2.2 h0;rcases Int.lt_or_eq_of_le h1 with h2|h2;exact h2;exact absurd ⟨h0,h2.symm⟩ hns)
  refine q' 8 r'<|f' r' t'<|b' 1 r' r' r'<|v' 1 r'<|P5 (Q4 (k-1) runUnderlying126 sizeOf198 rfl rfl hs2 (by omega) (by omega)) (by decide) fun p7 hp8=>have hp9:=A5r hp8;f' r' t'<|g' hp9 r' fun c10 hc11=>?_
  obtain rfl:=hc11
  exact w' 0 r' r' r'<|v' 3 r'<|T3 0 r' r' r' isAgg23 sizeOf23<|A7<|A6X
 refine v' 7 r'<|f' r' t'<|b' 1 r' r' r'<|v' 1 r'<|x' k hs2 r' r' fun p12 hp13=>have hp14:=A5r hp13;f' r' t'<|g' hp14 r' fun c15 hc16=>?_
 obtain rfl:=hc16
 exact w' 0 r' r' r'<|v' 3 r'<|T3 0 r' r' r' isAgg23 sizeOf23<|A7<|A6X
theorem B8L(m:Mem)(cw:List Value)(w:Wind)(hw:Enc.rd m cw w)(vl:Value)(l:List Station)(hl:Sl m vl l)(week:Int)(vlist:Value)(list:List Int)(hlist:Sl m vlist list):Pure prog 183 #[.agg cw.toArray,vl,J week,vlist] m (fun m' v=>∃r0 r1,v= .tuple #[.pointer r0,r1,J (I4 w l week list)]∧(I4 w l week list=0→∃p,r0=some p∧At m' p (B7q w l))∧Sl m' r1 (T1 w l week list)):=by
 obtain rfl:=hw
 refine have ll:=hl.le;have llist:=hlist.le;H7 func183 r' ntmps183 fun wld=>q' 2 r'<|o' r' r' fun b1=>v' 7 r'<|a' 0 r' r'<|v' 1 r'<|D1 (T.call call249 rfl (B8c _ _ w rfl _ _ hl)) (by decide) fun m2 r3 hle4 hR5=>?_
 obtain⟨q6,rfl,hq7⟩:=hR5
 refine have hl:=hl.mono hle4;have hlist:=hlist.mono hle4;v' 11 r'<|e' (X.neq r' r') (fun h8=>?_) fun h8=>?_
 ·refine v' 13 r'<|A5L r' r' r' r'<|C5 ?_
  first
   |(have he:=A3e (w:=w) (l:=l) (week:=week) (list:=list) (by omega);exact⟨_,_,A3N rfl rfl (A8 he.symm),fun h0=>by omega,by unfold T1;rw[if_neg (by omega)];exact .nil⟩)
   |(have he:=A3h (w:=w) (l:=l) (week:=week) (list:=list) (by omega) (by omega);exact⟨_,_,A3N rfl rfl (A8 he.symm),fun h0=>by omega,by unfold T1;rw[if_neg (by omega)];exact .nil⟩)
   |(have he:=A3o (w:=w) (l:=l) (week:=week) (list:=list) (i:=i) hw0 (by omega) (by unfold A1j;omega);exact⟨_,_,A3N rfl rfl (A8 he.symm),fun h0=>by omega,by unfold T1;rw[if_neg (by omega)];exact .nil⟩)
 refine v' 9 r'<|c' (X.call call170 rfl (N8 _ _ _ _)) (fun h9=>?_) fun h9=>?_
 ·refine v' 5 r'<|l' hlist r'<|v' 3 r'<|l' hl r'<|v' 1 r'<|e' (X.neq r' r') (fun h10=>?_) fun h10=>?_
  ·refine v' 13 r'<|A5L r' r' r' r'<|C5 ?_
   first
    |(have he:=A3e (w:=w) (l:=l) (week:=week) (list:=list) (by omega);exact⟨_,_,A3N rfl rfl (A8 he.symm),fun h0=>by omega,by unfold T1;rw[if_neg (by omega)];exact .nil⟩)
    |(have he:=A3h (w:=w) (l:=l) (week:=week) (list:=list) (by omega) (by omega);exact⟨_,_,A3N rfl rfl (A8 he.symm),fun h0=>by omega,by unfold T1;rw[if_neg (by omega)];exact .nil⟩)
    |(have he:=A3o (w:=w) (l:=l) (week:=week) (list:=list) (i:=i) hw0 (by omega) (by unfold A1j;omega);exact⟨_,_,A3N rfl rfl (A8 he.symm),fun h0=>by omega,by unfold T1;rw[if_neg (by omega)];exact .nil⟩)
  refine v' 7 r' ?_
  have hw0:J3 w l=0:=(by omega)
  have hl32:=(A0c (l:=l) (K0 hw0).1).1
  obtain⟨p11,rfl,hp12⟩:=hq7 hw0
  refine G7 Span 23<|q' 8 r'<|l' hl r'<|v' 4 r' ?_
  refine O6 (fun(i:Nat) (vo:Value)=>l.length-i) (fun i vo=>[A5 (vo) 23 ((List.range i).map (A6y l week list)),blk b1 49 [J w.Fixed,J w.Each]]) (fun i vo=>[(2,J week),(3,vlist),(11,.pointer (some (p11))),(13,vo),(35,vl),(36,J l.length),(37,J i)]) (fun i vo=>(∀j,j<i→A1j list j)∧i≤l.length) 0 (Value.slice none 0 0) ?_ ?_
  ·exact⟨fun j hj=>absurd hj (Nat.not_lt_zero _),Nat.zero_le _⟩
  rintro i vo ⟨hall,hi⟩
  refine q' 2 r'<|c' (X.lss r' r') (fun h14=>?_) fun h14=>?_
  ·refine v' 11 r'<|x' i hl r' r' fun p15 hp16=>g' hp16 r' fun c17 hc18=>?_
   obtain⟨v19,rfl,hs20⟩:=hc18
   refine have hl21:=hs20.le;n' zeroValue128 r' fun b22=>v' 1 r'<|w' 0 r' r' r'<|v' 7 r'<|x' i hlist r' r' fun p23 hp24=>i' hp24 r'<|c' (X.call call170 rfl (N8 _ _ _ _)) (fun h25=>?_) fun h25=>?_
   ·refine v' 6 r' ?_
    have hho:=(R6 (K0 hw0).1 (k:=i) (by omega)).2
    refine have hso:=A6b (week:=week) hho;B4 12 [9,10] [10]<|U' 3 r'<|X' i hlist r' r' r' r' fun p26 hp27=>Y' r' r' (A.i r' hp27)<|Y' r' r' (K4 0 r' r' r')<|U' 1 r'<|Y' r' r' (X.call call251 rfl (B8w _ _ (gt l i) ⟨_,rfl,hs20⟩ _ (by assumption) (by omega)))<|Y' r' r' (X.call call250 rfl (C3N _ _ _ (O8 ((gt l i)) week) rfl (by omega) (by assumption)))<|P4 r' r' r' (E6 Q7 rfl rfl rfl (by decide)) (by decide) fun b28=>?_
    refine V0 rfl rfl rfl rfl (E2 (k:=1) (a:=(Span.mk (A0n ((gt list i)) ((O8 ((gt l i)) week)).Lo) (A0n ((gt list i)) ((O8 ((gt l i)) week)).Hi))) Q7 rfl rfl rfl rfl (by first|omega|(simp;done)|(simp;omega)) (by decide)) (by decide) (fun v29=>?_)
    refine U' 1 r'<|V' 7 r' ?_
    have he30:(((List.range i).map (A6y l week list))++[(Span.mk (A0n ((gt list i)) ((O8 ((gt l i)) week)).Lo) (A0n ((gt list i)) ((O8 ((gt l i)) week)).Hi))])=((List.range (i+1)).map (A6y l week list)):=A8F i (A6y l week list)
    rw[he30]
    exact J7 (i+1) v29<|⟨fun j hj=>by rcases Nat.lt_succ_iff_lt_or_eq.1 hj with h|h;exact hall j h;subst h;unfold A1j;omega,by omega⟩
   refine v' 18 r'<|A5L r' r' r' r'<|C5 ?_
   first
    |(have he:=A3e (w:=w) (l:=l) (week:=week) (list:=list) (by omega);exact⟨_,_,A3N rfl rfl (A8 he.symm),fun h0=>by omega,by unfold T1;rw[if_neg (by omega)];exact .nil⟩)
    |(have he:=A3h (w:=w) (l:=l) (week:=week) (list:=list) (by omega) (by omega);exact⟨_,_,A3N rfl rfl (A8 he.symm),fun h0=>by omega,by unfold T1;rw[if_neg (by omega)];exact .nil⟩)
    |(have he:=A3o (w:=w) (l:=l) (week:=week) (list:=list) (i:=i) hw0 (by omega) (by unfold A1j;omega);exact⟨_,_,A3N rfl rfl (A8 he.symm),fun h0=>by omega,by unfold T1;rw[if_neg (by omega)];exact .nil⟩)
  refine v' 19 r' ?_
  refine E1 0 rfl rfl (by simp[C8];omega) (fun m31 hle32 hs33=>?_)
  refine have hp12:=hp12.mono hle32;A5L r' r' r' r'<|C5 ?_
  obtain rfl:i=l.length:=(by omega)
  have hok:=B0q hw0 (by omega) (by omega) hall
  rw[hok]
  exact⟨_,_,rfl,fun _=>⟨_,rfl,hp12⟩,by unfold T1;rw[if_pos hok];exact hs33⟩
 refine v' 20 r'<|A5L r' r' r' r'<|C5 ?_
 first
  |(have he:=A3e (w:=w) (l:=l) (week:=week) (list:=list) (by omega);exact⟨_,_,A3N rfl rfl (A8 he.symm),fun h0=>by omega,by unfold T1;rw[if_neg (by omega)];exact .nil⟩)
  |(have he:=A3h (w:=w) (l:=l) (week:=week) (list:=list) (by omega) (by omega);exact⟨_,_,A3N rfl rfl (A8 he.symm),fun h0=>by omega,by unfold T1;rw[if_neg (by omega)];exact .nil⟩)
  |(have he:=A3o (w:=w) (l:=l) (week:=week) (list:=list) (i:=i) hw0 (by omega) (by unfold A1j;omega);exact⟨_,_,A3N rfl rfl (A8 he.symm),fun h0=>by omega,by unfold T1;rw[if_neg (by omega)];exact .nil⟩)
theorem A8v(h:G:=by first|exact⟨by rw[if_neg (by omega)],A9 (by omega)⟩|exact⟨by rw[if_pos (by omega)];rfl,C9 (by omega)⟩):G:=h
theorem C1J(m:Mem)(b:Nat)(v:Value)(L:List Int)(i:Nat)(least:Int)(hi:i<L.length):Mut prog 184 #[.int .i64 ↑i,J least,Pt b 0] m [blk b 27 [v],A5 v 3 L] (fun _ Es u=>Es=[blk b 27 [v],A5 v 3 (if gt L i<least then L.set i least else L)]∧u= .bool (decide (gt L i<least))):=by
 refine G3 func184 r' ntmps184 fun wld=>q' 9 r'<|b' 0 r' r' r'<|v' 1 r'<|y' (A3A (k:=1) runUnderlying27 sizeOf3 rfl rfl rfl (by first|omega|(simp;omega)|simp) (by first|omega|(simp;omega)|simp))<|y' (A1p (k:=1) (i:=i) isAgg3 rfl rfl (by first|omega|(simp;omega)|simp))<|c' (X.leq r' r') (fun h1=>?_) fun h1=>?_
 ·exact v' 10 r'<|A0 r' r'<|G0<|A8v
 exact v' 7 r'<|b' 0 r' r' r'<|v' 2 r'<|y' (A3A (k:=1) runUnderlying27 sizeOf3 rfl rfl rfl (by first|omega|(simp;omega)|simp) (by first|omega|(simp;omega)|simp))<|I2 (A6h (k:=1) (i:=i) sizeOf3 rfl rfl rfl (by first|omega|(simp;omega)|simp))<|v' 8 r'<|A0 r' r'<|G0<|A8v
theorem C8s{c:Bool}{L L':List Int}{w:Wind}{week:Int}{list:List Int}{p:Prop}(h1:c=true→A4l w l week list L<A4l w l week list L')(h2:c=false→L=L'∧p):A4l w l week list L≤A4l w l week list L':=by
 cases c with
 |true=>exact Nat.le_of_lt (h1 rfl)
 |false=>rw[(h2 rfl).1];exact Nat.le_refl _
theorem A6O(h:G:=by first|exact⟨_,F8 rfl (A8 (by rw[A7h (by omega)])),by rw[A7h (by omega)];exact .nil⟩|exact⟨_,F8 rfl (A8 (by rw[A9a hlz (hend.over (j:=i) (by omega) (by omega))])),by rw[A9a hlz (hend.over (j:=i) (by omega) (by omega))];exact .nil⟩):G:=h
theorem B6n(m:Mem)(cw:List Value)(w:Wind)(hw:Enc.rd m cw w)(vl:Value)(l:List Station)(hl:Sl m vl l)(week:Int)(vlist:Value)(list:List Int)(hlist:Sl m vlist list):Pure prog 105 #[.agg cw.toArray,vl,J week,vlist] m (fun m' v=>∃r0,v= .tuple #[r0,J ((A0y w l week list).2)]∧Sl m' r0 ((A0y w l week list).1)):=by
 obtain rfl:=hw
 refine have ll:=hl.le;have llist:=hlist.le;H7 func105 r' ntmps105 fun wld=>q' 2 r'<|o' r' r' fun b1=>v' 7 r'<|a' 0 r' r'<|v' 3 r'<|D1 (T.call call183 rfl (B8L _ _ w rfl _ _ hl _ _ _ hlist)) (by decide) fun m2 r3 hle4 hR5=>?_
 obtain⟨q6,v8,rfl,hq7,hs9⟩:=hR5
 refine have hl:=hl.mono hle4;have hl10:=hs9.le;v' 13 r'<|e' (X.neq r' r') (fun h11=>?_) fun h11=>?_
 ·exact v' 13 r'<|B6 r' r' r'<|C5<|A6O
 refine v' 6 r' ?_
 have hlz:I4 w l week list=0:=(by omega)
 have hz:=A1g hlz
 have hw0:=hz.1
 have hl32:=(A0c (l:=l) (K0 hw0).1).1
 have hrl:=(A6x w l).1
 have htt:=B3q hw0
 obtain⟨p12,rfl,hp13⟩:=hq7 hlz
 rw[show T1 w l week list=N0 l week list from if_pos hlz]at hs9
 have hsl:(N0 l week list).length=l.length:=(by simp[N0])
 refine q' 2 r'<|l' hl r' ?_
 refine G2 (A5M l.length (a:=(0:Int)) L6 rfl rfl rfl (by omega) (by decide)) (by decide) (fun v14=>?_)
 refine A1U (T.alloc zeroValue27 rfl) (by decide) fun b15=>?_
 refine F7 (k:=1) rfl (fun ho16=>?_)
 refine I2 (T.storeB (k:=0) sizeOf27 rfl rfl rfl ho16 (Nat.le_of_ble_eq_true rfl))<|v' 4 r' ?_
 have hrep:(List.replicate l.length (0:Int)).length=l.length:=List.length_replicate
 refine q' 1 r'<|b' 0 r' r' r'<|y' (S5 (k:=1) runUnderlying27 rfl rfl)<|v' 4 r' ?_
 refine O6 (fun(k:Nat) (L1:List Int)=>l.length-k) (fun k L1=>[blk b15 27 [v14],A5 (v14) 3 (L1),blk b1 49 [J w.Fixed,J w.Each]]) (fun k L1=>[(10,.pointer (some (p12))),(11,v8),(13,Pt b15 0),(37,J (↑(List.replicate l.length (0:Int)).length)),(38,J k)]) (fun k L1=>(L1.length=l.length∧∀j,j<k→gt L1 j=(gt (N0 l week list) j).Lo)∧k≤l.length) 0 (List.replicate l.length (0:Int)) ?_ ?_
 ·exact⟨⟨by simp,fun j hj=>absurd hj (Nat.not_lt_zero _)⟩,Nat.zero_le _⟩
 rintro k L1 ⟨hL1,hk⟩
 refine q' 2 r'<|c' (X.lss r' r') (fun h18=>?_) fun h18=>?_
 ·exact v' 14 r'<|have hl1:=hL1.1;B4 9 [8] [8]<|Y' r' r' (A.b 0 r' r' r')<|U' 3 r'<|X' k hs9 r' r' r' r' fun p19 hp20=>have hp21:=Z0 hp20;Y' r' r' (A.f r')<|Y' r' r' (A.i r' hp21)<|Y' r' r' (A3A (k:=1) runUnderlying27 sizeOf3 rfl rfl rfl (by first|omega|(simp;omega)|simp) (by first|omega|(simp;omega)|simp))<|B3 r' r' r' r' (A6h (k:=1) (i:=k) sizeOf3 rfl rfl rfl (by first|omega|(simp;omega)|simp))<|V' 7 r'<|J7 (k+1) (L1.set k ((gt (N0 l week list) k).Lo))<|⟨⟨by rw[List.length_set];exact hL1.1,fun j hj=>by rw[V3 (by omega)];(split <;> rename_i e) <;> first|(subst e;rfl)|exact hL1.2 j (by omega)⟩,by omega⟩
 refine v' 11 r'<|y' (X.makeFunc (by intro x hx;simp at hx;subst hx;all_goals exact⟨_,rfl⟩) rfl)<|v' 11 r' ?_
 refine cu1 (fun(L:List Int)=>m2) (fun L=>[blk b15 27 [v14],A5 (v14) 3 (L),blk b1 49 [J w.Fixed,J w.Each]]) (fun L=>[(11,v8),(13,Pt b15 0)]) (fun L=>SeaEnd w l week list L) ?_ ?_
 ·refine q' 1 r' ?_
  refine O6 (fun(c:Bool) (L:List Int)=>cond c (A4l w l week list L+1) 0) (fun c L=>[blk b15 27 [v14],A5 (v14) 3 (L),blk b1 49 [J w.Fixed,J w.Each]]) (fun c L=>[(10,.pointer (some (p12))),(11,v8),(13,Pt b15 0),(15,.func (.func 184) #[] [Pt b15 0].toArray),(16,.bool (c))]) (fun c L=>SeaOk w l week list L∧(c=false→B7p w l L l.length 0)) true L1 ?_ ?_
  ·exact⟨SeaOk.start hL1.1 (fun j hj=>hL1.2 j (by omega)),fun h=>by cases h⟩
  rintro c L ⟨hok0,hfix⟩
  refine q' 6 r' ?_
  refine K8 rfl (fun h23=>?_) (fun h23=>?_)
  ·refine q' 9 r'<|have hl0:=hok0.len;q' 1 r'<|b' 0 r' r' r'<|y' (S5 (k:=1) runUnderlying27 rfl rfl)<|v' 4 r' ?_
   refine lq3 (fun(i:Nat) (c1:Bool) (L1:List Int)=>l.length-i) (fun i c1 L1=>[blk b15 27 [v14],A5 (v14) 3 (L1),blk b1 49 [J w.Fixed,J w.Each]]) (fun i c1 L1=>[(10,.pointer (some (p12))),(11,v8),(13,Pt b15 0),(15,.func (.func 184) #[] [Pt b15 0].toArray),(16,.bool (c1)),(53,J L.length),(54,J i)]) (fun i c1 L1=>SeaOk w l week list L1∧i≤l.length∧(c1=true→A4l w l week list L1<A4l w l week list L)∧(c1=false→L1=L∧B7p w l L1 i 0)) 0 false L ?_ ?_
   ·exact⟨hok0,Nat.zero_le _,(fun h=>by cases h),fun _=>⟨rfl,SDn.zero⟩⟩
   rintro i c1 L1 ⟨hok1,hi,hc1,hd1⟩
   refine q' 2 r'<|c' (X.lss r' r') (fun h25=>?_) fun h25=>?_
   ·refine v' 16 r'<|have hl1:=hok1.len;q' 1 r'<|b' 0 r' r' r'<|y' (S5 (k:=1) runUnderlying27 rfl rfl)<|v' 4 r' ?_
    refine lq3 (fun(k:Nat) (c2:Bool) (L2:List Int)=>l.length-k) (fun k c2 L2=>[blk b15 27 [v14],A5 (v14) 3 (L2),blk b1 49 [J w.Fixed,J w.Each]]) (fun k c2 L2=>[(10,.pointer (some (p12))),(11,v8),(13,Pt b15 0),(15,.func (.func 184) #[] [Pt b15 0].toArray),(16,.bool (c2)),(17,J i),(53,J L.length),(54,J i),(58,J L1.length),(59,J k)]) (fun k c2 L2=>SeaOk w l week list L2∧k≤l.length∧(c2=true→A4l w l week list L2<A4l w l week list L)∧(c2=false→L2=L∧B7p w l L2 i k)) 0 c1 L1 ?_ ?_
    ·exact⟨hok1,Nat.zero_le _,hc1,hd1⟩
    rintro k c2 L2 ⟨hok2,hk,hc2,hd2⟩
    refine K6 (fun hgood3=>?_)
    refine q' 2 r'<|c' (X.lss r' r') (fun h27=>?_) fun h27=>?_
    ·refine v' 14 r' ?_
     have hgt:=C4i (w:=w) (l:=l) (a:=k) (b:=i) (by omega) (by omega)
     have hb1:=SeaOk.range hlz hok2 (j:=k) (by omega)
     have hb2:=B1q hw0 k i (by omega) (by omega)
     have hl2:=hok2.len
     have hval:gt L2 k-gt (A4v w l) (0+k*32+i*1)=gt L2 k-P2 w l k i:=(by rw[hgt])
     refine B4 20 [15] [15]<|U' 2 r'<|Y' r' r' (A.b 0 r' r' r')<|U' 1 r'<|Y' r' r' (A3A (k:=1) runUnderlying27 sizeOf3 rfl rfl rfl (by first|omega|(simp;omega)|simp) (by first|omega|(simp;omega)|simp))<|Y' r' r' (A1p (k:=1) (i:=k) isAgg3 rfl rfl (by first|omega|(simp;omega)|simp))<|U' 4 r' ?_
     have hp28:Cells m2 (p12) (P6 (A4v w l)):=C1g hp13
     refine Y' r' r' (A.f r')<|Y' r' r' (B4f (off:=0) hp28 k underlying321 sizeOf319 rfl rfl (by omega) (by omega))<|Y' r' r' (B4f (off:=0+k*32) hp28 i underlying319 sizeOf3 rfl rfl (by omega) (by omega))<|Y' r' r' (B8Z (off:=0+k*32+i*1) isAgg3 rfl hp28 (by omega))<|U' 1 r' ?_
     refine A1T rfl rfl rfl rfl (C0p (A:=[blk b1 49 [J w.Fixed,J w.Each]]) call184 rfl rfl (List.Perm.refl _) (C1J _ _ _ _ i _ (by omega))) (by decide) (fun m29 _ r30 hle31 hR32=>?_)
     obtain⟨rfl,rfl⟩:=hR32
     replace hs9:=hs9.mono hle31
     by_cases h33:gt L2 i<((gt L2 k)-(gt (A4v w l) (0+k*32+i*1)))
     ·rw[decide_eq_true h33,if_pos h33]
      exact U' 4 r'<|V' 7 r'<|E5 hgood3 hle31<|X1 (k+1) true (L2.set i ((gt L2 k)-(gt (A4v w l) (0+k*32+i*1))))<|⟨(hok2.set htt (i:=i) (k:=k) (by omega) (by omega) hval ‹_›).1,by omega,fun _=>by have:=(hok2.set htt (i:=i) (k:=k) (by omega) (by omega) hval ‹_›).2;exact Nat.lt_of_lt_of_le this (C8s hc2 hd2),fun h=>by cases h⟩
     rw[decide_eq_false h33,if_neg h33]
     exact U' 4 r'<|V' 7 r'<|E5 hgood3 hle31<|X1 (k+1) c2 L2<|⟨hok2,by omega,hc2,fun h=>⟨(hd2 h).1,(hd2 h).2.next hval ‹_›⟩⟩
    refine v' 10 r'<|have hl2:=hok2.len;B4 10 [] []<|Y' r' r' (A.b 0 r' r' r')<|U' 1 r'<|Y' r' r' (A3A (k:=1) runUnderlying27 sizeOf3 rfl rfl rfl (by first|omega|(simp;omega)|simp) (by first|omega|(simp;omega)|simp))<|Y' r' r' (A1p (k:=1) (i:=i) isAgg3 rfl rfl (by first|omega|(simp;omega)|simp))<|U' 2 r'<|X' i hs9 r' r' r' r' fun p34 hp35=>have hp36:=W3 hp35;Y' r' r' (A.f r')<|Y' r' r' (A.i r' hp36)<|C' r' r' (X.gtr r' r') (fun h37=>?_) fun h37=>?_
    ·exact V' 11 r'<|I9 L2<|⟨hok2,.inr ⟨i,by omega,by omega⟩⟩
    exact V' 10 r'<|X1 (i+1) c2 L2<|⟨hok2,by omega,hc2,fun h=>⟨(hd2 h).1,(hd2 h).2.row (by omega)⟩⟩
   refine v' 10 r' ?_
   refine J7 c1 L1 ?_ ?_
   ·exact⟨hok1,fun h=>by have:=(hd1 h).2;rw[show i=l.length by omega]at this;exact this⟩
   ((try dsimp only);subst_vars;cases c1 with|false=>simp|true=>have:=hc1 rfl;simp only[cond];omega)
  exact q' 5 r'<|I9 L<|⟨hok0,.inl (fun j hj=>hok0.fix (hfix ‹_›) (Nat.le_refl _) hj)⟩
 rintro L hF38
 try dsimp only at hF38
 refine have hend:=hF38;q' 2 r'<|have hlf:=hend.1.len;q' 1 r'<|b' 0 r' r' r'<|y' (S5 (k:=1) runUnderlying27 rfl rfl)<|v' 4 r' ?_
 refine I0 (fun(i:Nat)=>l.length-i) (fun i=>[blk b15 27 [v14],A5 (v14) 3 (L),blk b1 49 [J w.Fixed,J w.Each]]) (fun i=>[(11,v8),(13,Pt b15 0),(93,v14),(94,J L.length),(95,J i)]) (fun i=>(∀j,j<i→gt L j≤(gt (N0 l week list) j).Hi)∧i≤l.length) 0 ?_ ?_
 ·exact⟨fun j hj=>absurd hj (Nat.not_lt_zero _),Nat.zero_le _⟩
 rintro i ⟨hall,hi⟩
 refine q' 2 r'<|c' (X.lss r' r') (fun h40=>?_) fun h40=>?_
 ·refine v' 11 r'<|y' (A3A (k:=1) runUnderlying27 sizeOf3 rfl rfl rfl (by first|omega|(simp;omega)|simp) (by first|omega|(simp;omega)|simp))<|y' (A1p (k:=1) (i:=i) isAgg3 rfl rfl (by first|omega|(simp;omega)|simp))<|v' 9 r'<|x' i hs9 r' r' fun p41 hp42=>have hp43:=W3 hp42;f' r' t'<|i' hp43 r'<|c' (X.gtr r' r') (fun h44=>?_) fun h44=>?_
  ·exact v' 16 r'<|B6 r' r' r'<|C5<|A6O
  exact v' 11 r'<|G5 (i+1)<|⟨fun j hj=>by rcases Nat.lt_succ_iff_lt_or_eq.1 hj with h|h;exact hall j h;subst h;omega,by omega⟩
 refine v' 11 r'<|b' 0 r' r' r'<|v' 6 r' ?_
 refine E1 1 rfl rfl (by simp[C8];omega) (fun m45 hle46 hs47=>?_)
 refine B6 r' r' r'<|C5 ?_
 have hfin:=hend.all (fun j hj=>hall j (by omega))
 exact⟨_,F8 rfl (A8 (by rw[A6W hlz hfin.1])),by rw[A6W hlz hfin.1,←hfin.2];exact hs47⟩
def B9o(e:Int):Prop:=e=0
instance(e:Int):Decidable (B9o e):=by unfold B9o;exact inferInstance
def keepE(e:Int):Int:=if e=3 then 0 else e
theorem B0a(h:G:=by first|exact F8 (A9 (by omega)) (A8 (by unfold keepE;rw[if_pos (by omega)]))|exact F8 rfl (A8 (by unfold keepE;rw[if_neg (by omega)]))):G:=h
theorem B5W(m:Mem)(cw:List Value)(w:Wind)(hw:Enc.rd m cw w)(vl:Value)(l:List Station)(hl:Sl m vl l)(week:Int)(vlist:Value)(list:List Int)(hlist:Sl m vlist list):Exact prog 43 #[.agg cw.toArray,vl,J week,vlist] m (.tuple #[.bool (decide ((A0y w l week list).2=0)),J (keepE (A0y w l week list).2)]):=by
 obtain rfl:=hw
 refine have ll:=hl.le;have llist:=hlist.le;C7 func43 r' ntmps43 fun wld=>q' 2 r'<|o' r' r' fun b1=>v' 6 r'<|a' 0 r' r'<|v' 3 r'<|D1 (T.call call105 rfl (B6n _ _ w rfl _ _ hl _ _ _ hlist)) (by decide) fun m2 r3 hle4 hR5=>?_
 obtain⟨v6,rfl,hs7⟩:=hR5
 refine have hl8:=hs7.le;v' 11 r'<|c' (X.eql r' r') (fun h9=>?_) fun h9=>?_
 ·exact v' 11 r'<|B6 r' r' r'<|A7<|B0a
 exact v' 15 r'<|B6 r' r' r'<|A7<|B0a
theorem C0B(m:Mem)(cs:List Value)(s:Station)(hs:Enc.rd m cs s)(id:Int):Exact prog 104 #[.agg cs.toArray,J id] m (J (S7 s.ID id)):=by
 obtain⟨v1,rfl,hs2⟩:=hs
 refine have hl3:=hs2.le;C7 func104 r' ntmps104 fun wld=>q' 2 r'<|o' r' r' fun b4=>v' 5 r'<|f' r' t'<|b' 0 r' r' r'<|v' 1 r'<|y' (X.call call88 rfl (A0u _ _ _))<|v' 4 r'<|A0 r' r'<|A7 ?_
 first|rfl|(simp[*];done)
theorem B7M(m:Mem)(cx:List Value)(x:Station)(hx:Enc.rd m cx x){pc pk:Addr}(hcc:Cells m pc [Fc 104])(hck:At m pk id):Exact prog 182 #[.agg cx.toArray,.pointer (some pc),.pointer (some pk)] m (.bool (decide (x.ID=id))):=by
 obtain⟨v1,rfl,hs2⟩:=hx
 exact have hl3:=hs2.le;C7 func182 r' ntmps182 fun wld=>q' 2 r'<|o' r' r' fun b4=>v' 5 r'<|y' (T4 isAgg228 rfl hcc)<|a' 0 r' r'<|i' hck r'<|y' (D6 call104 rfl rfl (C0B _ _ x ⟨_,rfl,hs2⟩ _))<|v' 5 r'<|A0 r' r'<|A7<|D5 B1T
def A9l(l:List Station)(id:Int):Int:=V8 (fun i=>(gt l i).ID=id) l.length
def U7(l:List Station)(id:Int):Int×Int:=if(H8 l).1≠0 then(0,(H8 l).1)else if A9l l id<0 then(0,50)else(A9l l id,0)
theorem B5z(h:(H8 l).1≠0):U7 l id=(0,(H8 l).1):=if_pos h
theorem B3j(h:¬(H8 l).1≠0)(h1:A9l l id<0):U7 l id=(0,50):=by rw[U7,if_neg h,if_pos h1]
theorem B5P(h:¬(H8 l).1≠0)(h1:¬A9l l id<0):U7 l id=(A9l l id,0):=by rw[U7,if_neg h,if_neg h1]
theorem A8s(h:G:=by first|exact A8 (A0K (p:=fun i=>(gt l i).ID=id) (by omega) hall (by assumption)).symm|exact A8 (A0t (p:=fun i=>(gt l i).ID=id) (fun j hj=>hall j (by omega))).symm):G:=h
theorem C0b(m:Mem){v:Value}(hl:Sl m v l){pc pk:Addr}(hcc:Cells m pc [Fc 104])(hck:At m pk id):Exact prog 181 #[v,.func (.func 182) #[] #[.pointer (some pc),.pointer (some pk)]] m (J (A9l l id)):=by
 refine have hll:=hl.le;C7 func181 r' ntmps181 fun wld=>q' 9 r'<|l' hl r'<|v' 4 r' ?_
 refine I0 (fun(k:Nat)=>l.length-k) (fun k=>[]) (fun k=>[(0,v),(1,.func (.func 182) #[] [.pointer (some pc),.pointer (some (pk))].toArray),(7,J l.length),(8,J k)]) (fun k=>k≤l.length∧(∀j,j<k→¬(gt l j).ID=id)) 0 ?_ ?_
 ·exact⟨Nat.zero_le _,fun j hj=>absurd hj (Nat.not_lt_zero _)⟩
 rintro k ⟨hk,hall⟩
 refine q' 2 r'<|c' (X.lss r' r') (fun h2=>?_) fun h2=>?_
 ·refine v' 19 r'<|x' k hl r' r' fun p3 hp4=>g' hp4 r' fun c5 hc6=>?_
  obtain⟨v7,rfl,hs8⟩:=hc6
  refine have hl9:=hs8.le;c' (D6 call182 rfl rfl (B7M _ _ (gt l k) ⟨_,rfl,hs8⟩ hcc hck)) (fun h10=>?_) fun h10=>?_
  ·exact v' 15 r'<|A0 r' r'<|A7<|A8s
  exact v' 11 r'<|G5 (k+1)<|⟨by omega,fun j hj=>by rcases Nat.lt_succ_iff_lt_or_eq.1 hj with h_|h_;exact hall j h_;subst h_;assumption⟩
 exact v' 15 r'<|A0 r' r'<|A7<|A8s
theorem B8F(m:Mem){v:Value}(hl:Sl m v l)(id:Int):Exact prog 103 #[v,J id,Fc 104] m (J (A9l l id)):=by
 refine C7 func103 r' ntmps103 fun wld=>q' 2 r'<|o' r' r' fun b1=>o' r' r' fun b2=>v' 4 r' ?_
 refine A0F 0 rfl rfl (fun m3 hle4 hc5=>?_)
 replace hl:=hl.mono hle4
 have hcc:=hc5
 refine A0F 0 rfl rfl (fun m6 hle7 hc8=>?_)
 replace hl:=hl.mono hle7
 replace hcc:=hcc.mono hle7
 have hck:At m6 ⟨b1,0,none⟩ id:=⟨_,rfl,hc8⟩
 refine q' 2 r'<|y' (X.makeFunc (by intro x hx;simp at hx;rcases hx with rfl|rfl;all_goals exact⟨_,rfl⟩) rfl)<|y' (X.call call181 rfl (C0b _ hl hcc hck))<|v' 10 r'<|A0 r' r'<|A7 ?_
 rfl
theorem A2W(h:G:=by first|exact F8 (A8 (by rw[B5z (by omega)])) (A8 (by rw[B5z (by omega)]))|exact F8 (A8 (by rw[B5P (by omega) (by omega)])) (A8 (by rw[B5P (by omega) (by omega)]))|exact F8 (A8 (by rw[B3j (by omega) (by omega)])) (A8 (by rw[B3j (by omega) (by omega)]))):G:=h
theorem A0Q(m:Mem)(vl:Value)(l:List Station)(hl:Sl m vl l)(id:Int):Exact prog 42 #[vl,J id] m (.tuple #[J ((U7 l id).1),J ((U7 l id).2)]):=by
 refine have ll:=hl.le;C7 func42 r' ntmps42 fun wld=>q' 10 r'<|y' (X.call call89 rfl (A5H _ _ _ hl))<|v' 10 r'<|e' (X.neq r' r') (fun h1=>?_) fun h1=>?_
 ·exact v' 12 r'<|B6 r' r' r'<|A7<|A2W
 refine v' 9 r'<|y' (X.call call103 rfl (B8F _ hl id))<|v' 7 r'<|c' (X.lss r' r') (fun h2=>?_) fun h2=>?_
 ·exact v' 11 r'<|B6 r' r' r'<|A7<|A2W
 exact v' 13 r'<|B6 r' r' r'<|A7<|A2W
end Go.Proofs.S10
