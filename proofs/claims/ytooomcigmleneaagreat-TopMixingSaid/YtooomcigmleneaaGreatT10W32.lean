import Derived.Test.YtooomcigmleneaaGreatKxW
import Derived.Test.YtooomcigmleneaaGreatKyP
import Derived.Test.YtooomcigmleneaaGreatT10Ty
import Derived.Test.YtooomcigmleneaaGreatKxU
import Derived.Test.YtooomcigmleneaaGreatT10SWk
import Derived.Test.YtooomcigmleneaaGreatT10W31
set_option linter.all false
set_option maxHeartbeats 8000000
namespace Go.Proofs.S10
open Tryz
set_option maxRecDepth 20000
open Go Go.Kx Go.Proofs.T10
variable{G:Prop}{v:Value}
theorem C2c(m:Mem)(va:Value)(a:List Point)(ha:Sl m va a)(vb:Value)(b:List Point)(hb:Sl m vb b):Exact prog 328 #[va,vb] m (.bool (decide (a=b))):=by
 refine have la:=ha.le;have lb:=hb.le;have hla_:=ha.le;have hlb_:=hb.le;C7 func328 r' ntmps328 fun wld=>q' 9 r'<|l' ha r'<|v' 1 r'<|l' hb r'<|e' (X.neq r' r') (fun h1=>?_) fun h1=>?_
 ·exact v' 10 r'<|A0 r' r'<|A7<|A9 (fun e=>by subst e;omega)
 refine v' 9 r'<|l' ha r'<|v' 4 r' ?_
 refine I0 (fun(k:Nat)=>a.length-k) (fun k=>[]) (fun k=>[(0,va),(1,vb),(12,J a.length),(13,J k)]) (fun k=>k≤a.length∧(∀j,j<k→gt a j=gt b j)) 0 ?_ ?_
 ·exact⟨Nat.zero_le _,fun j hj=>absurd hj (Nat.not_lt_zero _)⟩
 rintro k ⟨hk,hall⟩
 refine q' 2 r'<|c' (X.lss r' r') (fun h3=>?_) fun h3=>?_
 ·refine v' 15 r'<|B4 9 [] []<|U' 2 r'<|X' k ha r' r' r' r' fun p4 hp5=>G' hp5 r' r' r' fun c6 hc7=>?_
  obtain rfl:=hc7
  refine U' 2 r'<|X' k hb r' r' r' r' fun p8 hp9=>G' hp9 r' r' r' fun c10 hc11=>?_
  obtain rfl:=hc11
  refine A0h rfl rfl (B3T (a:=gt a k) (b:=gt b k) C7d (fun w=>C5Y 9998 _ _ w) rfl rfl) (by decide) (fun h12=>?_) (fun h12=>?_)
  ·exact V' 13 r'<|A0 r' r'<|A7<|A9 (fun e=>by subst e;contradiction)
  exact V' 10 r'<|G5 (k+1)<|⟨by omega,fun j hj=>by rcases Nat.lt_succ_iff_lt_or_eq.1 hj with h|h;exact hall j h;subst h;(first|assumption|(apply Classical.byContradiction;assumption))⟩
 exact v' 15 r'<|A0 r' r'<|A7<|C9 (A1P (by omega) (fun j hj=>hall j (by omega)))
theorem C1W(m:Mem)(va:Value)(a:List Stp)(ha:Sl m va a)(vb:Value)(b:List Stp)(hb:Sl m vb b):Exact prog 329 #[va,vb] m (.bool (decide (a=b))):=by
 refine have la:=ha.le;have lb:=hb.le;have hla_:=ha.le;have hlb_:=hb.le;C7 func329 r' ntmps329 fun wld=>q' 9 r'<|l' ha r'<|v' 1 r'<|l' hb r'<|e' (X.neq r' r') (fun h1=>?_) fun h1=>?_
 ·exact v' 10 r'<|A0 r' r'<|A7<|A9 (fun e=>by subst e;omega)
 refine v' 9 r'<|l' ha r'<|v' 4 r' ?_
 refine I0 (fun(k:Nat)=>a.length-k) (fun k=>[]) (fun k=>[(0,va),(1,vb),(12,J a.length),(13,J k)]) (fun k=>k≤a.length∧(∀j,j<k→gt a j=gt b j)) 0 ?_ ?_
 ·exact⟨Nat.zero_le _,fun j hj=>absurd hj (Nat.not_lt_zero _)⟩
 rintro k ⟨hk,hall⟩
 refine q' 2 r'<|c' (X.lss r' r') (fun h3=>?_) fun h3=>?_
 ·refine v' 15 r'<|B4 9 [] []<|U' 2 r'<|X' k ha r' r' r' r' fun p4 hp5=>G' hp5 r' r' r' fun c6 hc7=>?_
  obtain rfl:=hc7
  refine U' 2 r'<|X' k hb r' r' r' r' fun p8 hp9=>G' hp9 r' r' r' fun c10 hc11=>?_
  obtain rfl:=hc11
  refine A0h rfl rfl (B3T (a:=gt a k) (b:=gt b k) C7b (fun w=>C5z 9997 _ _ w) rfl rfl) (by decide) (fun h12=>?_) (fun h12=>?_)
  ·exact V' 13 r'<|A0 r' r'<|A7<|A9 (fun e=>by subst e;contradiction)
  exact V' 10 r'<|G5 (k+1)<|⟨by omega,fun j hj=>by rcases Nat.lt_succ_iff_lt_or_eq.1 hj with h|h;exact hall j h;subst h;(first|assumption|(apply Classical.byContradiction;assumption))⟩
 exact v' 15 r'<|A0 r' r'<|A7<|C9 (A1P (by omega) (fun j hj=>hall j (by omega)))
theorem U8(h:G:=by first|exact A9 (fun h_=>absurd h_.1 (by assumption))|exact A9 (fun h_=>absurd h_.2.1 (by assumption))|exact A9 (fun h_=>absurd h_.2.2.1 (by assumption))|exact A9 (fun h_=>absurd h_.2.2.2.1 (by assumption))|exact A9 (fun h_=>absurd h_.2.2.2.2.1 (by assumption))|exact D5 ⟨fun h_=>⟨by first|assumption|omega,by first|assumption|omega,by first|assumption|omega,by first|assumption|omega,by first|assumption|omega,h_⟩,fun h_=>h_.2.2.2.2.2⟩):G:=h
theorem B2M(m:Mem)(ca:List Value)(a:Sheet)(ha:Enc.rd m ca a)(cb:List Value)(b:Sheet)(hb:Enc.rd m cb b):Exact prog 313 #[.agg ca.toArray,.agg cb.toArray] m (.bool (decide (ssP a b))):=by
 obtain⟨v1,v3,v5,v7,rfl,hs2,hs4,hs6,hs8⟩:=ha
 have hl9:=hs2.le
 have hl10:=hs4.le
 have hl11:=hs6.le
 have hl12:=hs8.le
 obtain⟨v13,v15,v17,v19,rfl,hs14,hs16,hs18,hs20⟩:=hb
 refine have hl21:=hs14.le;have hl22:=hs16.le;have hl23:=hs18.le;have hl24:=hs20.le;C7 func313 r' ntmps313 fun wld=>q' 2 r'<|o' r' r' fun b25=>o' r' r' fun b26=>v' 4 r'<|fz (x:=a) 1 r' r' ⟨_,_,_,_,rfl,hs2,hs4,hs6,hs8⟩ fun m27 hle28 hp29=>have hs14:=hs14.mono hle28;have hs16:=hs16.mono hle28;have hs18:=hs18.mono hle28;have hs20:=hs20.mono hle28;fz (x:=b) 0 r' r' ⟨_,_,_,_,rfl,hs14,hs16,hs18,hs20⟩ fun m30 hle31 hp32=>have hp29:=hp29.mono hle31;q' 1 r'<|have hp33:=Q2 hp29;f' r' t'<|g' hp33 r' fun c34 hc35=>?_
 obtain rfl:=hc35
 refine have hp36:=Q2 hp32;f' r' t'<|g' hp36 r' fun c37 hc38=>?_
 obtain rfl:=hc38
 refine c' (A3s (a:=a.Paper) (b:=b.Paper) C8A (fun w=>C6Q 9997 _ _ w) rfl rfl) (fun h39=>?_) fun h39=>?_
 ·refine v' 2 r'<|have hp40:=Z9 hp29;f' r' t'<|v' 1 r'<|s' hp40 r' fun v41 hs42=>have hl43:=hs42.le;v' 1 r'<|have hp44:=Z9 hp32;f' r' t'<|v' 1 r'<|s' hp44 r' fun v45 hs46=>have hl47:=hs46.le;v' 1 r'<|c' (X.call call328 rfl (C2c _ _ _ hs42 _ _ hs46)) (fun h48=>?_) fun h48=>?_
  ·refine v' 3 r'<|have hp49:=A0I hp29;f' r' t'<|v' 1 r'<|s' hp49 r' fun v50 hs51=>have hl52:=hs51.le;v' 1 r'<|have hp53:=A0I hp32;f' r' t'<|v' 1 r'<|s' hp53 r' fun v54 hs55=>have hl56:=hs55.le;v' 1 r'<|c' (X.call call180 rfl (B4u _ _ _ hs51 _ _ hs55)) (fun h57=>?_) fun h57=>?_
   ·refine v' 3 r'<|have hp58:=F9 hp29;f' r' t'<|v' 1 r'<|have hp59:=R9 hp58;f' r' t'<|v' 1 r'<|s' hp59 r' fun v60 hs61=>have hl62:=hs61.le;v' 1 r'<|have hp63:=F9 hp32;f' r' t'<|v' 1 r'<|have hp64:=R9 hp63;f' r' t'<|v' 1 r'<|s' hp64 r' fun v65 hs66=>have hl67:=hs66.le;v' 1 r'<|c' (X.call call220 rfl (B2S _ _ _ hs61 _ _ hs66)) (fun h68=>?_) fun h68=>?_
    ·refine v' 3 r'<|have hp69:=F9 hp29;f' r' t'<|v' 1 r'<|have hp70:=P3 hp69;f' r' t'<|v' 1 r'<|s' hp70 r' fun v71 hs72=>have hl73:=hs72.le;v' 1 r'<|have hp74:=F9 hp32;f' r' t'<|v' 1 r'<|have hp75:=P3 hp74;f' r' t'<|v' 1 r'<|s' hp75 r' fun v76 hs77=>have hl78:=hs77.le;v' 1 r'<|c' (X.call call329 rfl (C1W _ _ _ hs72 _ _ hs77)) (fun h79=>?_) fun h79=>?_
     ·refine v' 3 r'<|have hp80:=J9 hp29;f' r' t'<|v' 1 r'<|g' hp80 r' fun c81 hc82=>?_
      obtain rfl:=hc82
      refine v' 1 r'<|have hp83:=J9 hp32;f' r' t'<|v' 1 r'<|g' hp83 r' fun c84 hc85=>?_
      obtain rfl:=hc85
      exact v' 1 r'<|y' (A3s (a:=a.Pen) (b:=b.Pen) C8u (fun w=>C7Q 9997 _ _ w) rfl rfl)<|v' 5 r'<|A0 r' r'<|A7<|U8
     exact v' 12 r'<|A0 r' r'<|A7<|U8
    exact v' 21 r'<|A0 r' r'<|A7<|U8
   exact v' 30 r'<|A0 r' r'<|A7<|U8
  exact v' 37 r'<|A0 r' r'<|A7<|U8
 exact v' 43 r'<|A0 r' r'<|A7<|U8
theorem Q8(h:G:=by first|exact A9 (fun h_=>absurd h_.1 (by assumption))|exact A9 (fun h_=>absurd h_.2.1 (by assumption))|exact A9 (fun h_=>absurd h_.2.2.1 (by assumption))|exact A9 (fun h_=>absurd h_.2.2.2.1 (by assumption))|exact A9 (fun h_=>absurd h_.2.2.2.2.1 (by assumption))|exact A9 (fun h_=>absurd h_.2.2.2.2.2.1 (by assumption))|exact A9 (fun h_=>absurd h_.2.2.2.2.2.2.1 (by assumption))|exact A9 (fun h_=>absurd h_.2.2.2.2.2.2.2.1 (by assumption))|exact A9 (fun h_=>absurd h_.2.2.2.2.2.2.2.2.1 (by assumption))|exact A9 (fun h_=>absurd h_.2.2.2.2.2.2.2.2.2.1 (by assumption))|exact D5 ⟨fun h_=>⟨by first|assumption|omega,by first|assumption|omega,by first|assumption|omega,by first|assumption|omega,by first|assumption|omega,by first|assumption|omega,by first|assumption|omega,by first|assumption|omega,by first|assumption|omega,by first|assumption|omega,h_⟩,fun h_=>h_.2.2.2.2.2.2.2.2.2.2⟩):G:=h
theorem C4I(m:Mem)(ca:List Value)(a:NoteT)(ha:Enc.rd m ca a)(cb:List Value)(b:NoteT)(hb:Enc.rd m cb b):Exact prog 284 #[.agg ca.toArray,.agg cb.toArray] m (.bool (decide (snP a b))):=by
 obtain⟨v1,v3,v5,v7,rfl,hs2,hs4,hs6,hs8⟩:=ha
 have hl9:=hs2.le
 have hl10:=hs4.le
 have hl11:=hs6.le
 have hl12:=hs8.le
 obtain⟨v13,v15,v17,v19,rfl,hs14,hs16,hs18,hs20⟩:=hb
 refine have hl21:=hs14.le;have hl22:=hs16.le;have hl23:=hs18.le;have hl24:=hs20.le;C7 func284 r' ntmps284 fun wld=>q' 2 r'<|o' r' r' fun b25=>o' r' r' fun b26=>v' 4 r'<|fz (x:=a) 1 r' r' ⟨_,_,_,_,rfl,hs2,hs4,hs6,hs8⟩ fun m27 hle28 hp29=>have hs14:=hs14.mono hle28;have hs16:=hs16.mono hle28;have hs18:=hs18.mono hle28;have hs20:=hs20.mono hle28;fz (x:=b) 0 r' r' ⟨_,_,_,_,rfl,hs14,hs16,hs18,hs20⟩ fun m30 hle31 hp32=>have hp29:=hp29.mono hle31;B4 76 [] []<|G' hp29 r' r' r' fun c33 hc34=>?_
 obtain⟨v35,v37,v39,v41,rfl,hs36,hs38,hs40,hs42⟩:=hc34
 refine have hl43:=hs36.le;have hl44:=hs38.le;have hl45:=hs40.le;have hl46:=hs42.le;Y' r' r' (X.call call154 rfl (H9 _ _ a ⟨_,_,_,_,rfl,hs36,hs38,hs40,hs42⟩))<|G' hp32 r' r' r' fun c47 hc48=>?_
 obtain⟨v49,v51,v53,v55,rfl,hs50,hs52,hs54,hs56⟩:=hc48
 refine have hl57:=hs50.le;have hl58:=hs52.le;have hl59:=hs54.le;have hl60:=hs56.le;Y' r' r' (X.call call154 rfl (H9 _ _ b ⟨_,_,_,_,rfl,hs50,hs52,hs54,hs56⟩))<|C' r' r' (A3s (a:=G4 a) (b:=G4 b) C5Q (fun w=>B6Y 9998 _ _ w) rfl rfl) (fun h61=>?_) fun h61=>?_
 ·refine U' 1 r'<|have hp62:=A1t hp29;Y' r' r' (A.f r')<|Y' r' r' (A.i r' hp62)<|have hp63:=A1t hp32;Y' r' r' (A.f r')<|Y' r' r' (A.i r' hp63)<|C' r' r' (X.eql r' r') (fun h64=>?_) fun h64=>?_
  ·refine U' 2 r'<|have hp65:=A1y hp29;Y' r' r' (A.f r')<|Y' r' r' (A.i r' hp65)<|have hp66:=A1y hp32;Y' r' r' (A.f r')<|Y' r' r' (A.i r' hp66)<|C' r' r' (X.eql r' r') (fun h67=>?_) fun h67=>?_
   ·refine U' 2 r'<|have hp68:=A2L hp29;Y' r' r' (A.f r')<|Y' r' r' (A.i r' hp68)<|have hp69:=A2L hp32;Y' r' r' (A.f r')<|Y' r' r' (A.i r' hp69)<|C' r' r' (X.eql r' r') (fun h70=>?_) fun h70=>?_
    ·refine U' 2 r'<|have hp71:=U0 hp29;Y' r' r' (A.f r')<|Y' r' r' (A.i r' hp71)<|have hp72:=U0 hp32;Y' r' r' (A.f r')<|Y' r' r' (A.i r' hp72)<|C' r' r' (X.eql r' r') (fun h73=>?_) fun h73=>?_
     ·refine U' 2 r'<|have hp74:=A0H hp29;Y' r' r' (A.f r')<|Y' r' r' (A.i r' hp74)<|have hp75:=A0H hp32;Y' r' r' (A.f r')<|Y' r' r' (A.i r' hp75)<|C' r' r' (X.eql r' r') (fun h76=>?_) fun h76=>?_
      ·refine U' 2 r'<|have hp77:=O3 hp29;Y' r' r' (A.f r')<|G' hp77 r' r' r' fun c78 hc79=>?_
       obtain rfl:=hc79
       refine have hp80:=O3 hp32;Y' r' r' (A.f r')<|G' hp80 r' r' r' fun c81 hc82=>?_
       obtain rfl:=hc82
       refine C' r' r' (A3s (a:=a.Mark) (b:=b.Mark) C8h (fun w=>C7S 9997 _ _ w) rfl rfl) (fun h83=>?_) fun h83=>?_
       ·refine U' 2 r'<|have hp84:=U1 hp29;Y' r' r' (A.f r')<|G' hp84 r' r' r' fun c85 hc86=>?_
        obtain rfl:=hc86
        refine have hp87:=U1 hp32;Y' r' r' (A.f r')<|G' hp87 r' r' r' fun c88 hc89=>?_
        obtain rfl:=hc89
        refine C' r' r' (A3s (a:=a.Read) (b:=b.Read) C7i (fun w=>C6F 9997 _ _ w) rfl rfl) (fun h90=>?_) fun h90=>?_
        ·refine U' 2 r'<|have hp91:=A1Q hp29;Y' r' r' (A.f r')<|G' hp91 r' r' r' fun c92 hc93=>?_
         obtain rfl:=hc93
         refine have hp94:=A1Q hp32;Y' r' r' (A.f r')<|G' hp94 r' r' r' fun c95 hc96=>?_
         obtain rfl:=hc96
         refine C' r' r' (A3s (a:=a.Height) (b:=b.Height) C7r (fun w=>C6b 9997 _ _ w) rfl rfl) (fun h97=>?_) fun h97=>?_
         ·refine U' 2 r'<|have hp98:=D8 hp29;Y' r' r' (A.f r')<|G' hp98 r' r' r' fun c99 hc100=>?_
          obtain rfl:=hc100
          refine have hp101:=D8 hp32;Y' r' r' (A.f r')<|G' hp101 r' r' r' fun c102 hc103=>?_
          obtain rfl:=hc103
          refine C' r' r' (A3s (a:=a.Ref) (b:=b.Ref) C5Q (fun w=>B6Y 9998 _ _ w) rfl rfl) (fun h104=>?_) fun h104=>?_
          ·refine U' 2 r'<|have hp105:=A1v hp29;Y' r' r' (A.f r')<|G' hp105 r' r' r' fun c106 hc107=>?_
           obtain⟨v108,v110,v112,v114,rfl,hs109,hs111,hs113,hs115⟩:=hc107
           refine have hl116:=hs109.le;have hl117:=hs111.le;have hl118:=hs113.le;have hl119:=hs115.le;have hp120:=A1v hp32;Y' r' r' (A.f r')<|G' hp120 r' r' r' fun c121 hc122=>?_
           obtain⟨v123,v125,v127,v129,rfl,hs124,hs126,hs128,hs130⟩:=hc122
           exact have hl131:=hs124.le;have hl132:=hs126.le;have hl133:=hs128.le;have hl134:=hs130.le;Y' r' r' (X.call call313 rfl (B2M _ _ a.Sheet ⟨_,_,_,_,rfl,hs109,hs111,hs113,hs115⟩ _ b.Sheet ⟨_,_,_,_,rfl,hs124,hs126,hs128,hs130⟩))<|U' 2 r'<|V' 2 r'<|A0 r' r'<|A7<|Q8
          exact U' 9 r'<|V' 2 r'<|A0 r' r'<|A7<|Q8
         exact U' 16 r'<|V' 2 r'<|A0 r' r'<|A7<|Q8
        exact U' 23 r'<|V' 2 r'<|A0 r' r'<|A7<|Q8
       exact U' 30 r'<|V' 2 r'<|A0 r' r'<|A7<|Q8
      exact U' 37 r'<|V' 2 r'<|A0 r' r'<|A7<|Q8
     exact U' 44 r'<|V' 2 r'<|A0 r' r'<|A7<|Q8
    exact U' 51 r'<|V' 2 r'<|A0 r' r'<|A7<|Q8
   exact U' 58 r'<|V' 2 r'<|A0 r' r'<|A7<|Q8
  exact U' 65 r'<|V' 2 r'<|A0 r' r'<|A7<|Q8
 exact U' 70 r'<|U' 1 r'<|V' 2 r'<|A0 r' r'<|A7<|Q8
theorem A8i(h:G:=by first|exact A8 (A0K (p:=fun i=>v=gt l i) (by omega) hall (by assumption)).symm|exact A8 (A0t (p:=fun i=>v=gt l i) (fun j hj=>hall j (by omega))).symm):G:=h
theorem C1N(m:Mem)(vl:Value)(l:List Int)(hl:Sl m vl l)(v:Int):Exact prog 288 #[vl,J v] m (J (C2l l v)):=by
 refine have ll:=hl.le;C7 func288 r' ntmps288 fun wld=>q' 9 r'<|l' hl r'<|v' 4 r' ?_
 refine I0 (fun(k:Nat)=>l.length-k) (fun k=>[]) (fun k=>[(0,vl),(1,J v),(7,J l.length),(8,J k)]) (fun k=>k≤l.length∧(∀j,j<k→¬v=gt l j)) 0 ?_ ?_
 ·exact⟨Nat.zero_le _,fun j hj=>absurd hj (Nat.not_lt_zero _)⟩
 rintro k ⟨hk,hall⟩
 refine q' 2 r'<|c' (X.lss r' r') (fun h2=>?_) fun h2=>?_
 ·refine v' 19 r'<|x' k hl r' r' fun p3 hp4=>i' hp4 r'<|c' (X.eql r' r') (fun h5=>?_) fun h5=>?_
  ·exact v' 15 r'<|A0 r' r'<|A7<|A8i
  exact v' 11 r'<|G5 (k+1)<|⟨by omega,fun j hj=>by rcases Nat.lt_succ_iff_lt_or_eq.1 hj with h|h;exact hall j h;subst h;assumption⟩
 exact v' 15 r'<|A0 r' r'<|A7<|A8i
theorem B4H(m:Mem)(vl:Value)(l:List Int)(hl:Sl m vl l)(v:Int):Exact prog 232 #[vl,J v] m (.bool (decide (0≤C2l l v))):=by
 refine have ll:=hl.le;C7 func232 r' ntmps232 fun wld=>q' 9 r'<|y' (X.call call288 rfl (C1N _ _ _ hl _))<|v' 5 r'<|A0 r' r'<|A7 ?_
 first|rfl|(simp[*];done)
theorem C1r(m:Mem)(cf:List Value)(f:FiledT)(hf:Enc.rd m cf f){ps pw:Addr}{st wk:Int}(hps:At m ps st)(hpw:At m pw wk):Exact prog 291 #[.agg cf.toArray,.pointer (some ps),.pointer (some pw)] m (.bool (decide (f.Station=st∧f.Week=wk))):=by
 obtain⟨v1,v3,v5,v7,v9,v11,rfl,hs2,hs4,hs6,hs8,hs10,hs12⟩:=hf
 refine have hl13:=hs2.le;have hl14:=hs4.le;have hl15:=hs6.le;have hl16:=hs8.le;have hl17:=hs10.le;have hl18:=hs12.le;C7 func291 r' ntmps291 fun wld=>q' 2 r'<|o' r' r' fun b19=>v' 4 r'<|fz (x:=f) 0 r' r' ⟨_,_,_,_,_,_,rfl,hs2,hs4,hs6,hs8,hs10,hs12⟩ fun m20 hle21 hp22=>have hps:=hps.mono hle21;have hpw:=hpw.mono hle21;q' 1 r'<|have hp23:=P7 hp22;f' r' t'<|i' hp23 r'<|i' hps r'<|c' (X.eql r' r') (fun h24=>?_) fun h24=>?_
 ·refine v' 2 r'<|have hp25:=A8g hp22;f' r' t'<|v' 1 r'<|i' hp25 r'<|v' 1 r'<|i' hpw r'<|v' 7 r'<|A0 r' r'<|A7 ?_
  first|exact A9 (fun h_=>by have h1_:=h_.1;omega)|exact D5 ⟨fun h_=>⟨by omega,h_⟩,fun h_=>h_.2⟩
 refine v' 10 r'<|A0 r' r'<|A7 ?_
 first|exact A9 (fun h_=>by have h1_:=h_.1;omega)|exact D5 ⟨fun h_=>⟨by omega,h_⟩,fun h_=>h_.2⟩
theorem A8d(h:G:=by first|exact A8 (A0K (p:=fun i=>(gt l i).Station=st∧(gt l i).Week=wk) (by omega) hall (by assumption)).symm|exact A8 (A0t (p:=fun i=>(gt l i).Station=st∧(gt l i).Week=wk) (fun j hj=>hall j (by omega))).symm):G:=h
theorem C2x(m:Mem){l:List FiledT}(hl:Sl m v l){ps pw:Addr}{st wk:Int}(hps:At m ps st)(hpw:At m pw wk):Exact prog 290 #[v,.func (.func 291) #[] #[.pointer (some ps),.pointer (some pw)]] m (J (V8 (fun i=>(gt l i).Station=st∧(gt l i).Week=wk) l.length)):=by
 refine have hll:=hl.le;C7 func290 r' ntmps290 fun wld=>q' 9 r'<|l' hl r'<|v' 4 r' ?_
 refine I0 (fun(k:Nat)=>l.length-k) (fun k=>[]) (fun k=>[(0,v),(1,.func (.func 291) #[] [.pointer (some (ps)),.pointer (some (pw))].toArray),(7,J l.length),(8,J k)]) (fun k=>k≤l.length∧(∀j,j<k→¬((gt l j).Station=st∧(gt l j).Week=wk))) 0 ?_ ?_
 ·exact⟨Nat.zero_le _,fun j hj=>absurd hj (Nat.not_lt_zero _)⟩
 rintro k ⟨hk,hall⟩
 refine q' 2 r'<|c' (X.lss r' r') (fun h2=>?_) fun h2=>?_
 ·refine v' 19 r'<|x' k hl r' r' fun p3 hp4=>g' hp4 r' fun c5 hc6=>?_
  obtain⟨v7,v9,v11,v13,v15,v17,rfl,hs8,hs10,hs12,hs14,hs16,hs18⟩:=hc6
  refine have hl19:=hs8.le;have hl20:=hs10.le;have hl21:=hs12.le;have hl22:=hs14.le;have hl23:=hs16.le;have hl24:=hs18.le;c' (D6 call291 rfl rfl (C1r _ _ (gt l k) ⟨_,_,_,_,_,_,rfl,hs8,hs10,hs12,hs14,hs16,hs18⟩ hps hpw)) (fun h25=>?_) fun h25=>?_
  ·exact v' 15 r'<|A0 r' r'<|A7<|A8d
  exact v' 11 r'<|G5 (k+1)<|⟨by omega,fun j hj=>by rcases Nat.lt_succ_iff_lt_or_eq.1 hj with h|h;exact hall j h;subst h;assumption⟩
 exact v' 15 r'<|A0 r' r'<|A7<|A8d
theorem B7l(m:Mem)(cr:List Value)(r:RegT)(hr:Enc.rd m cr r)(station:Int)(week:Int):Exact prog 234 #[.agg cr.toArray,J station,J week] m (.tuple #[J (if B3l r station week<0 then 0 else B3l r station week),J (if B3l r station week<0 then 3 else 0)]):=by
 obtain⟨v1,v3,v5,v7,rfl,hs2,hs4,hs6,hs8⟩:=hr
 refine have hl9:=hs2.le;have hl10:=hs4.le;have hl11:=hs6.le;have hl12:=hs8.le;C7 func234 r' ntmps234 fun wld=>q' 2 r'<|o' r' r' fun b13=>o' r' r' fun b14=>o' r' r' fun b15=>v' 5 r'<|fz (x:=r) 2 r' r' ⟨_,_,_,_,rfl,hs2,hs4,hs6,hs8⟩ fun m16 hle17 hp18=>fz (x:=station) 1 r' r' r' fun m19 hle20 hp21=>have hp18:=hp18.mono hle20;fz (x:=week) 0 r' r' r' fun m22 hle23 hp24=>have hp18:=hp18.mono hle23;have hp21:=hp21.mono hle23;q' 1 r'<|have hp25:=A1h hp18;f' r' t'<|s' hp25 r' fun v26 hs27=>have hl28:=hs27.le;y' (X.makeFunc (by intro x hx;simp at hx;rcases hx with rfl|rfl;all_goals exact⟨_,rfl⟩) rfl)<|y' (X.call call290 rfl (C2x _ hs27 hp21 hp24))<|y' (X.call call289 rfl (C2v _ _))<|v' 7 r'<|B6 r' r' r'<|A7 ?_
 rfl
theorem A4F(m:Mem){L:List Height}(hL:Sl m v L)(hn:L.length≤10000):Mut prog 164 #[v] m [] (fun _ Es u=>Es=[A5 u 198 L]∧u.oneCell'=true):=by
 refine G3 func164 r' ntmps164 fun wld=>q' 9 r' ?_
 refine K2 (A1k underlying126 rfl rfl hL) (by decide) (fun h1=>?_) (fun h1=>?_)
 ·refine v' 4 r' ?_
  obtain rfl:=hL.nil_of (by assumption)
  refine G7 Height 198<|q' 6 r'<|A0 r' r'<|G0 ?_
  first|exact⟨rfl,rfl⟩|exact⟨rfl,ho_⟩
 refine v' 7 r' ?_
 refine G2 (A4J (α:=Height) A4W rfl) (by decide) (fun v2=>?_)
 refine v' 1 r' ?_
 refine G2 (A0G (α:=Height) (fun _ _ _ h=>h) (k:=0) A4W rfl rfl hL rfl (by first|omega|(simp;omega)) (by first|omega|(simp;omega))) (by decide) (fun v3=>?_)
 refine F7 (k:=0) rfl (fun ho_=>?_)
 refine v' 4 r'<|A0 r' r'<|G0 ?_
 first|exact⟨rfl,rfl⟩|exact⟨rfl,ho_⟩
theorem C0z(m:Mem){L:List Mark}(hL:Sl m v L)(hn:L.length≤10000):Mut prog 166 #[v] m [] (fun _ Es u=>Es=[A5 u 98 L]∧u.oneCell'=true):=by
 refine G3 func166 r' ntmps166 fun wld=>q' 9 r' ?_
 refine K2 (A1k underlying74 rfl rfl hL) (by decide) (fun h1=>?_) (fun h1=>?_)
 ·refine v' 4 r' ?_
  obtain rfl:=hL.nil_of (by assumption)
  refine G7 Mark 98<|q' 6 r'<|A0 r' r'<|G0 ?_
  first|exact⟨rfl,rfl⟩|exact⟨rfl,ho_⟩
 refine v' 7 r' ?_
 refine G2 (A4J (α:=Mark) B3x rfl) (by decide) (fun v2=>?_)
 refine v' 1 r' ?_
 refine G2 (A0G (α:=Mark) (fun _ _ _ h=>h) (k:=0) B3x rfl rfl hL rfl (by first|omega|(simp;omega)) (by first|omega|(simp;omega))) (by decide) (fun v3=>?_)
 refine F7 (k:=0) rfl (fun ho_=>?_)
 refine v' 4 r'<|A0 r' r'<|G0 ?_
 first|exact⟨rfl,rfl⟩|exact⟨rfl,ho_⟩
theorem C2m(m:Mem){L:List NName}(hL:Sl m v L)(hn:L.length≤10000):Mut prog 167 #[v] m [] (fun _ Es u=>Es=[A5 u 73 L]∧u.oneCell'=true):=by
 refine G3 func167 r' ntmps167 fun wld=>q' 9 r' ?_
 refine K2 (A1k underlying56 rfl rfl hL) (by decide) (fun h1=>?_) (fun h1=>?_)
 ·refine v' 4 r' ?_
  obtain rfl:=hL.nil_of (by assumption)
  refine G7 NName 73<|q' 6 r'<|A0 r' r'<|G0 ?_
  first|exact⟨rfl,rfl⟩|exact⟨rfl,ho_⟩
 refine v' 7 r' ?_
 refine G2 (A4J (α:=NName) A5j rfl) (by decide) (fun v2=>?_)
 refine v' 1 r' ?_
 refine G2 (A0G (α:=NName) (fun _ _ _ h=>h) (k:=0) A5j rfl rfl hL rfl (by first|omega|(simp;omega)) (by first|omega|(simp;omega))) (by decide) (fun v3=>?_)
 refine F7 (k:=0) rfl (fun ho_=>?_)
 refine v' 4 r'<|A0 r' r'<|G0 ?_
 first|exact⟨rfl,rfl⟩|exact⟨rfl,ho_⟩
theorem C1o(m:Mem){L:List Point}(hL:Sl m v L)(hn:L.length≤10000):Mut prog 236 #[v] m [] (fun _ Es u=>Es=[A5 u 102 L]∧u.oneCell'=true):=by
 refine G3 func236 r' ntmps236 fun wld=>q' 9 r' ?_
 refine K2 (A1k underlying26 rfl rfl hL) (by decide) (fun h1=>?_) (fun h1=>?_)
 ·refine v' 4 r' ?_
  obtain rfl:=hL.nil_of (by assumption)
  refine G7 Point 102<|q' 6 r'<|A0 r' r'<|G0 ?_
  first|exact⟨rfl,rfl⟩|exact⟨rfl,ho_⟩
 refine v' 7 r' ?_
 refine G2 (A4J (α:=Point) C4Z rfl) (by decide) (fun v2=>?_)
 refine v' 1 r' ?_
 refine G2 (A0G (α:=Point) (fun _ _ _ h=>h) (k:=0) C4Z rfl rfl hL rfl (by first|omega|(simp;omega)) (by first|omega|(simp;omega))) (by decide) (fun v3=>?_)
 refine F7 (k:=0) rfl (fun ho_=>?_)
 refine v' 4 r'<|A0 r' r'<|G0 ?_
 first|exact⟨rfl,rfl⟩|exact⟨rfl,ho_⟩
theorem C1i(m:Mem){L:List Int}(hL:Sl m v L)(hn:L.length≤10000):Mut prog 237 #[v] m [] (fun _ Es u=>Es=[A5 u 3 L]∧u.oneCell'=true):=by
 refine G3 func237 r' ntmps237 fun wld=>q' 9 r' ?_
 refine K2 (A1k underlying27 rfl rfl hL) (by decide) (fun h1=>?_) (fun h1=>?_)
 ·refine v' 4 r' ?_
  obtain rfl:=hL.nil_of (by assumption)
  refine G7 Int 3<|q' 6 r'<|A0 r' r'<|G0 ?_
  first|exact⟨rfl,rfl⟩|exact⟨rfl,ho_⟩
 refine v' 7 r' ?_
 refine G2 (A4J (α:=Int) L6 rfl) (by decide) (fun v2=>?_)
 refine v' 1 r' ?_
 refine G2 (B9N (k:=0) L6 rfl rfl hL rfl (by first|omega|(simp;omega)) (by first|omega|(simp;omega))) (by decide) (fun v3=>?_)
 refine F7 (k:=0) rfl (fun ho_=>?_)
 refine v' 4 r'<|A0 r' r'<|G0 ?_
 first|exact⟨rfl,rfl⟩|exact⟨rfl,ho_⟩
theorem B9Y(m:Mem){L:List Stp}(hL:Sl m v L)(hn:L.length≤10000):Mut prog 238 #[v] m [] (fun _ Es u=>Es=[A5 u 108 L]∧u.oneCell'=true):=by
 refine G3 func238 r' ntmps238 fun wld=>q' 9 r' ?_
 refine K2 (A1k underlying29 rfl rfl hL) (by decide) (fun h1=>?_) (fun h1=>?_)
 ·refine v' 4 r' ?_
  obtain rfl:=hL.nil_of (by assumption)
  refine G7 Stp 108<|q' 6 r'<|A0 r' r'<|G0 ?_
  first|exact⟨rfl,rfl⟩|exact⟨rfl,ho_⟩
 refine v' 7 r' ?_
 refine G2 (A4J (α:=Stp) C5e rfl) (by decide) (fun v2=>?_)
 refine v' 1 r' ?_
 refine G2 (A0G (α:=Stp) (fun _ _ _ h=>h) (k:=0) C5e rfl rfl hL rfl (by first|omega|(simp;omega)) (by first|omega|(simp;omega))) (by decide) (fun v3=>?_)
 refine F7 (k:=0) rfl (fun ho_=>?_)
 refine v' 4 r'<|A0 r' r'<|G0 ?_
 first|exact⟨rfl,rfl⟩|exact⟨rfl,ho_⟩
end Go.Proofs.S10
