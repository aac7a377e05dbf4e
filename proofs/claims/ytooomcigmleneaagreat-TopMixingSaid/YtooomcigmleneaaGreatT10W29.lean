import Derived.Test.YtooomcigmleneaaGreatKxW
import Derived.Test.YtooomcigmleneaaGreatKyP
import Derived.Test.YtooomcigmleneaaGreatT10Ty
import Derived.Test.YtooomcigmleneaaGreatKxU
import Derived.Test.YtooomcigmleneaaGreatT10SWk
import Derived.Test.YtooomcigmleneaaGreatT10W27
set_option linter.all false
set_option maxHeartbeats 8000000
namespace Go.Proofs.S10
open Tryz
set_option maxRecDepth 20000
open Go Go.Kx Go.Proofs.T10
theorem A1F{G:Prop}(h:G:=by first|exact A8 (B6z (by omega)).symm|(have hn_:¬A1H w l:=(fun h_=>by have h1_:=h_.1;omega);exact A8 (A4Z (by omega) hn_).symm)|(have hn_:¬A1H w l:=(fun h_=>by exact absurd (B1h.2 (h_.2.1 k (by omega))) (by assumption));exact A8 (A4Z (by omega) hn_).symm)|(have hn_:¬A1H w l:=(fun h_=>by have h1_:=h_.2.2;unfold A7U at h1_;first|omega|contradiction);exact A8 (A4Z (by omega) hn_).symm)|(have hn_:¬A1H w l:=(fun h_=>by exact C2I (by first|assumption|omega) (by have h1_:=h_.2.2;unfold A7U at h1_;exact h1_));exact A8 (A4Z (by omega) hn_).symm)|exact A8 (B9t (by omega) ⟨by omega,fun j hj=>hall j (by omega),by unfold A7U;first|assumption|(apply Classical.byContradiction;assumption)⟩).symm):G:=h
theorem B5A(m:Mem)(cw:List Value)(w:WeekT)(hw:Enc.rd m cw w)(vl:Value)(l:List Course)(hl:Sl m vl l):Exact prog 14 #[.agg cw.toArray,vl] m (J (A2N w l)):=by
 obtain⟨v1,v3,v5,rfl,hs2,hs4,hs6⟩:=hw
 refine have hl7:=hs2.le;have hl8:=hs4.le;have hl9:=hs6.le;have ll:=hl.le;C7 func14 r' ntmps14 fun wld=>q' 2 r'<|o' r' r' fun b10=>v' 5 r'<|fz (x:=w) 0 r' r' ⟨_,_,_,rfl,hs2,hs4,hs6⟩ fun m11 hle12 hp13=>have hl:=hl.mono hle12;q' 1 r'<|g' hp13 r' fun c14 hc15=>?_
 obtain⟨v16,v18,v20,rfl,hs17,hs19,hs21⟩:=hc15
 refine have hl22:=hs17.le;have hl23:=hs19.le;have hl24:=hs21.le;y' (X.call call39 rfl (B5K _ _ w ⟨_,_,_,rfl,hs17,hs19,hs21⟩))<|v' 6 r'<|e' (X.neq r' r') (fun h25=>?_) fun h25=>?_
 ·exact v' 11 r'<|A0 r' r'<|A7<|A1F
 refine v' 7 r' ?_
 have hz_:=A2M (w:=w) (by omega)
 have hw_:=hz_.2
 have hwl_:=hw_.2.1
 have hwh_:=hw_.1
 unfold A2t at hwh_
 refine q' 2 r'<|l' hl r'<|have hp26:=N1 hp13;f' r' t'<|s' hp26 r' fun v27 hs28=>have hl29:=hs28.le;l' hs28 r'<|e' (X.neq r' r') (fun h30=>?_) fun h30=>?_
 ·exact v' 10 r'<|A0 r' r'<|A7<|A1F
 refine v' 6 r'<|A0r 128 4<|q' 5 r'<|G7 Int 3<|q' 7 r'<|have hp31:=N1 hp13;f' r' t'<|s' hp31 r' fun v32 hs33=>have hl34:=hs33.le;l' hs33 r'<|v' 4 r' ?_
 refine lp (G:=Nat×Value×List Value×Value×Mem) (fun(k,vy,xs,vz,mm)=>w.Sheets.length-k) (fun(k,vy,xs,vz,mm)=>mm) (fun(k,vy,xs,vz,mm)=>[A5 (vz) 3 (lvL w l k),row (vy) 128 4 (stL w k).length (xs)]) (fun(k,vy,xs,vz,mm)=>[(1,vl),(2,Pt b10 0),(6,vy),(7,vz),(26,v32),(27,J w.Sheets.length),(28,J k)]) (fun(k,vy,xs,vz,mm)=>m11.le mm∧RdL mm xs (stL w k)∧k≤w.Sheets.length∧(∀j,j<k→A8G w l j)) ((0,Value.slice none 0 0,[],(Value.slice none 0 0),m11)) ?_ ?_
 ·exact⟨Mem.le_refl _,RdL.nil,Nat.zero_le _,fun j hj=>absurd hj (Nat.not_lt_zero _)⟩
 rintro⟨k,vy,xs,vz,mm⟩ hF35
 conv=>enter [7];dsimp only
 conv=>enter [8];dsimp only
 try dsimp only at hF35
 obtain⟨hmm,hx_,hk,hall⟩:=hF35
 replace hl:=hl.mono hmm
 replace hp13:=hp13.mono hmm
 replace hs33:=hs33.mono hmm
 have hsk_:(stL w k).length=k:=C4 _ _
 have hlk_:(lvL w l k).length=k:=C4 _ _
 refine q' 2 r'<|c' (X.lss r' r') (fun h36=>?_) fun h36=>?_
 ·refine v' 11 r'<|x' k hs33 r' r' fun p37 hp38=>g' hp38 r' fun c39 hc40=>?_
  obtain⟨v41,v43,v45,v47,v49,v51,rfl,hs42,hs44,hs46,hs48,hs50,hs52⟩:=hc40
  refine have hl53:=hs42.le;have hl54:=hs44.le;have hl55:=hs46.le;have hl56:=hs48.le;have hl57:=hs50.le;have hl58:=hs52.le;n' zeroValue76 r' fun b59=>v' 1 r'<|w' 0 r' r' r'<|v' 4 r'<|fz (x:=gt w.Sheets k) 0 r' r' ⟨_,_,_,_,_,_,rfl,hs42,hs44,hs46,hs48,hs50,hs52⟩ fun m60 hle61 hp62=>?_
  replace hl:=hl.mono hle61
  replace hp13:=hp13.mono hle61
  replace hx_:=hx_.mono hle61
  have hsw_:=(hw_.2.2.1 k (by omega)).2
  have hsp_:=hsw_
  unfold A1e at hsp_
  refine have hpk_:=A4s hsp_.2.2.2.1;have hdr_:=(A6k hsp_.2.1.2).1;K7 (π:=sq [0,1,2,3,5,6,7,8,4,9,10] .done) [4] [] r' (by kernel_rfl)<|G' hp13 r' r' r' fun c63 hc64=>?_
  obtain⟨v65,v67,v69,rfl,hs66,hs68,hs70⟩:=hc64
  refine have hl71:=hs66.le;have hl72:=hs68.le;have hl73:=hs70.le;G' hp62 r' r' r' fun c74 hc75=>?_
  obtain⟨v76,v78,v80,v82,v84,v86,rfl,hs77,hs79,hs81,hs83,hs85,hs87⟩:=hc75
  refine have hl88:=hs77.le;have hl89:=hs79.le;have hl90:=hs81.le;have hl91:=hs83.le;have hl92:=hs85.le;have hl93:=hs87.le;have hp94:=P7 hp62;Y' r' r' (A.f r')<|Y' r' r' (A.i r' hp94)<|U' 2 r'<|X' k hl r' r' r' r' fun p95 hp96=>G' hp96 r' r' r' fun c97 hc98=>?_
  obtain⟨v99,v101,v103,rfl,hs100,hs102,hs104⟩:=hc98
  have hl105:=hs100.le
  have hl106:=hs102.le
  have hl107:=hs104.le
  refine A1V rfl rfl rfl (T.call call40 rfl (C5k _ _ w ⟨_,_,_,rfl,hs66,hs68,hs70⟩ _ (gt w.Sheets k) ⟨_,_,_,_,_,_,rfl,hs77,hs79,hs81,hs83,hs85,hs87⟩ _ hpk_ (by omega) (by omega))) (by decide) (fun m108 _ hle109 hR_=>?_)
  obtain⟨p110,ix111,rfl,hp112⟩:=hR_
  refine have hl:=hl.mono hle109;have hp13:=hp13.mono hle109;have hx_:=hx_.mono hle109;have hp62:=hp62.mono hle109;have hs100:=hs100.mono hle109;have hs102:=hs102.mono hle109;have hs104:=hs104.mono hle109;C' r' r' (X.call call41 rfl (C0a _ _ _ hp112 _ (gt l k) ⟨_,_,_,rfl,hs100,hs102,hs104⟩ (C4H hw_ (by omega) _ _))) (fun h113=>?_) fun h113=>?_
  ·refine U' 1 r'<|V' 5 r' ?_
   have hag_:A8G w l k:=(by first|exact B1h.1 (by assumption)|exact B1h.1 (Classical.not_not.1 (by assumption)))
   have hlv_:=hag_.2.1.2
   have hlv2_:((gt l k).Levels.length:Int)=w.Base.Ticks+1:=hlv_
   refine q' 1 r'<|have hp114:=K9 hp13;f' r' t'<|have hp115:=N3 hp114;f' r' t'<|s' hp115 r' fun v116 hs117=>have hl118:=hs117.le;have hp119:=P7 hp62;f' r' t'<|i' hp119 r'<|y' (X.call call42 rfl (A0Q _ _ _ hs117 _))<|v' 8 r'<|have hof_:=A9R hsp_.1.1;q' 2 r'<|have hp120:=K9 hp13;f' r' t'<|have hp121:=N3 hp120;f' r' t'<|s' hp121 r' fun v122 hs123=>have hl124:=hs123.le;v' 1 r'<|P5 (A0V runUnderlying47 sizeOf128 rfl rfl hs123 (by omega) (by omega)) (by decide) fun p125 hp126=>g' hp126 r' fun c127 hc128=>?_
   obtain⟨v129,rfl,hs130⟩:=hc128
   refine have hl131:=hs130.le;T6 (E6 A6R rfl rfl rfl (by decide)) (by decide) fun b132=>?_
   refine G2 (W4 (k:=1) (n':=((stL w k)++[gt w.Base.Stations (((U7 w.Base.Stations (((gt w.Sheets k).Station))).1:Int).toNat)]).length) A6R rfl rfl rfl rfl rfl (A4 rfl (A4 rfl (A4 rfl (A4 hs130.one C0)))) (by simp) (by first|omega|(simp;omega)) (by first|omega|(simp;omega))) (by decide) (fun v133=>?_)
   refine have hx134:=X6 (a:=gt w.Base.Stations (((U7 w.Base.Stations (((gt w.Sheets k).Station))).1:Int).toNat)) hx_ ⟨_,rfl,hs130⟩;v' 3 r'<|B4 14 [11,12] [12]<|U' 3 r'<|X' k hl r' r' r' r' fun p135 hp136=>have hp137:=J1 hp136;Y' r' r' (A.f r')<|S' hp137 r' r' r' fun v138 hs139=>have hl140:=hs139.le;have hp141:=K9 hp13;Y' r' r' (A.f r')<|have hp142:=A1E hp141;Y' r' r' (A.f r')<|Y' r' r' (A.i r' hp142)<|G9 r' r' (A0V runUnderlying27 sizeOf3 rfl rfl hs139 (by omega) (by omega)) (by decide) fun p143 hp144=>Y' r' r' (A.i r' hp144)<|P4 r' r' r' (E6 L6 rfl rfl rfl (by decide)) (by decide) fun b145=>?_
   refine V0 rfl rfl rfl rfl (E2 (k:=0) (a:=gt ((gt l k).Levels) ((w.Base.Term:Int).toNat)) L6 rfl rfl rfl rfl (by first|omega|(simp;done)|(simp;omega)) (by decide)) (by decide) (fun v146=>?_)
   refine U' 1 r'<|V' 7 r' ?_
   have he147:((stL w k)++[gt w.Base.Stations (((U7 w.Base.Stations (((gt w.Sheets k).Station))).1:Int).toNat)])=(stL w (k+1)):=(L4 _ _).symm
   rw[he147]
   rw[he147]at hx134
   have he148:((lvL w l k)++[gt ((gt l k).Levels) ((w.Base.Term:Int).toNat)])=(lvL w l (k+1)):=(L4 _ _).symm
   rw[he148]
   refine nx ((k+1,v133,xs++[J ((gt w.Base.Stations (((U7 w.Base.Stations (((gt w.Sheets k).Station))).1:Int).toNat)).ID),J ((gt w.Base.Stations (((U7 w.Base.Stations (((gt w.Sheets k).Station))).1:Int).toNat)).X),J ((gt w.Base.Stations (((U7 w.Base.Stations (((gt w.Sheets k).Station))).1:Int).toNat)).Y),v129],v146,m108)) ?_ ?_
   ·exact⟨(Mem.le_trans hmm (Mem.le_trans hle61 hle109)),hx134,by omega,fun j hj=>by rcases Nat.lt_succ_iff_lt_or_eq.1 hj with h|h;exact hall j h;subst h;assumption⟩
   (dsimp only;omega)
  exact U' 1 r'<|V' 14 r'<|A0 r' r'<|A7<|A1F
 refine v' 11 r' ?_
 have hkk_:k=w.Sheets.length:=(by omega)
 have he149:(stL w k)=(stL w w.Sheets.length):=(by rw[hkk_])
 rw[he149]
 rw[he149]at hx_
 have he150:(lvL w l k)=(lvL w l w.Sheets.length):=(by rw[hkk_])
 rw[he150]
 refine N4 1 rfl rfl hx_ (by first|(unfold stL;rw[C4];unfold C8;omega)|(unfold lvL;rw[C4];unfold C8;omega)) (fun m151 hle152 hs153=>?_)
 replace hp13:=hp13.mono hle152
 refine E1 0 rfl rfl (by first|(unfold stL;rw[C4];unfold C8;omega)|(unfold lvL;rw[C4];unfold C8;omega)) (fun m154 hle155 hs156=>?_)
 refine have hp13:=hp13.mono hle155;have hs153:=hs153.mono hle155;q' 1 r'<|have hp157:=K9 hp13;f' r' t'<|have hp158:=A4i hp157;f' r' t'<|g' hp158 r' fun c159 hc160=>?_
 obtain rfl:=hc160
 refine v' 1 r'<|have hp161:=A2O hp13;f' r' t'<|i' hp161 r'<|v' 1 r'<|y' (X.call call43 rfl (B5W _ _ w.Base.Wind rfl _ _ hs153 _ _ _ hs156))<|v' 10 r'<|e' (X.neq r' r') (fun h162=>?_) fun h162=>?_
 ·exact v' 14 r'<|A0 r' r'<|A7<|A1F
 refine v' 4 r'<|e' (A0l rfl) (fun h163=>?_) fun h163=>?_
 ·exact v' 11 r'<|A0 r' r'<|A7<|A1F
 exact v' 12 r'<|A0 r' r'<|A7<|A1F
theorem A3S{G:Prop}(h:G:=by first|exact A9 (fun h_=>by have h1_:=h_.1;omega)|exact A9 (fun h_=>by exact absurd (h_.2.1 k (by omega)) (by assumption))|exact A9 (fun h_=>by exact C2I (by first|assumption|omega) (by have h1_:=h_.2.2;unfold A7U at h1_;exact h1_))|exact D5 ⟨fun h_=>⟨by omega,fun j hj=>hall j (by omega),h_⟩,fun h_=>h_.2.2⟩):G:=h
theorem C4F(m:Mem)(cw:List Value)(w:WeekT)(hw:Enc.rd m cw w)(vl:Value)(l:List Course)(hl:Sl m vl l)(hz_:U9 w=0):Exact prog 44 #[.agg cw.toArray,vl] m (.bool (decide (A7k w l))):=by
 obtain⟨v1,v3,v5,rfl,hs2,hs4,hs6⟩:=hw
 have hl7:=hs2.le
 have hl8:=hs4.le
 have hl9:=hs6.le
 have ll:=hl.le
 have hw_:=(A2M hz_).2
 have hwl_:=hw_.2.1
 have hwh_:=hw_.1
 unfold A2t at hwh_
 refine C7 func44 r' ntmps44 fun wld=>q' 2 r'<|o' r' r' fun b10=>v' 5 r'<|fz (x:=w) 0 r' r' ⟨_,_,_,rfl,hs2,hs4,hs6⟩ fun m11 hle12 hp13=>have hl:=hl.mono hle12;q' 2 r'<|l' hl r'<|have hp14:=N1 hp13;f' r' t'<|s' hp14 r' fun v15 hs16=>have hl17:=hs16.le;l' hs16 r'<|e' (X.neq r' r') (fun h18=>?_) fun h18=>?_
 ·exact v' 10 r'<|A0 r' r'<|A7<|A3S
 refine v' 6 r'<|A0r 128 4<|q' 5 r'<|G7 Int 3<|q' 11 r' ?_
 refine lp (G:=Nat×Value×List Value×Value×Mem) (fun(k,vy,xs,vz,mm)=>l.length-k) (fun(k,vy,xs,vz,mm)=>mm) (fun(k,vy,xs,vz,mm)=>[A5 (vz) 3 (lvL w l k),row (vy) 128 4 (stL w k).length (xs)]) (fun(k,vy,xs,vz,mm)=>[(1,vl),(2,Pt b10 0),(5,vy),(6,vz),(7,J k)]) (fun(k,vy,xs,vz,mm)=>m11.le mm∧RdL mm xs (stL w k)∧k≤l.length∧(∀j,j<k→A4E (gt w.Sheets j).Sheet w.Base.Ticks (gt l j))) ((0,Value.slice none 0 0,[],(Value.slice none 0 0),m11)) ?_ ?_
 ·exact⟨Mem.le_refl _,RdL.nil,Nat.zero_le _,fun j hj=>absurd hj (Nat.not_lt_zero _)⟩
 rintro⟨k,vy,xs,vz,mm⟩ hF19
 conv=>enter [7];dsimp only
 conv=>enter [8];dsimp only
 try dsimp only at hF19
 obtain⟨hmm,hx_,hk,hall⟩:=hF19
 replace hl:=hl.mono hmm
 replace hp13:=hp13.mono hmm
 have hsk_:(stL w k).length=k:=C4 _ _
 have hlk_:(lvL w l k).length=k:=C4 _ _
 refine q' 5 r'<|l' hl r'<|c' (X.lss r' r') (fun h20=>?_) fun h20=>?_
 ·refine v' 8 r' ?_
  have hsw_:=(hw_.2.2.1 k (by omega)).2
  have hsp_:=hsw_
  unfold A1e at hsp_
  refine have hpk_:=A4s hsp_.2.2.2.1;B4 15 [] []<|have hp21:=K9 hp13;Y' r' r' (A.f r')<|have hp22:=N3 hp21;Y' r' r' (A.f r')<|S' hp22 r' r' r' fun v23 hs24=>have hl25:=hs24.le;have hp26:=N1 hp13;Y' r' r' (A.f r')<|S' hp26 r' r' r' fun v27 hs28=>have hl29:=hs28.le;U' 1 r'<|X' k hs28 r' r' r' r' fun p30 hp31=>have hp32:=P7 hp31;Y' r' r' (A.f r')<|Y' r' r' (A.i r' hp32)<|Y' r' r' (X.call call42 rfl (A0Q _ _ _ hs24 _))<|U' 5 r'<|V' 3 r'<|B4 19 [] []<|U' 1 r'<|Y' r' r' (A1S (X.neq rfl rfl) (fun h=>h hsp_.1.1))<|U' 1 r'<|have hp33:=N1 hp13;Y' r' r' (A.f r')<|S' hp33 r' r' r' fun v34 hs35=>have hl36:=hs35.le;U' 1 r'<|X' k hs35 r' r' r' r' fun p37 hp38=>have hp39:=A3j hp38;Y' r' r' (A.f r')<|G' hp39 r' r' r' fun c40 hc41=>?_
  obtain⟨v42,v44,v46,v48,rfl,hs43,hs45,hs47,hs49⟩:=hc41
  refine have hl50:=hs43.le;have hl51:=hs45.le;have hl52:=hs47.le;have hl53:=hs49.le;have hp54:=K9 hp13;Y' r' r' (A.f r')<|have hp55:=W2 hp54;Y' r' r' (A.f r')<|Y' r' r' (A.i r' hp55)<|U' 2 r'<|X' k hl r' r' r' r' fun p56 hp57=>G' hp57 r' r' r' fun c58 hc59=>?_
  obtain⟨v60,v62,v64,rfl,hs61,hs63,hs65⟩:=hc59
  refine have hl66:=hs61.le;have hl67:=hs63.le;have hl68:=hs65.le;C' r' r' (X.call call11 rfl (C3P _ _ ((gt w.Sheets k).Sheet) ⟨_,_,_,_,rfl,hs43,hs45,hs47,hs49⟩ _ _ (gt l k) ⟨_,_,_,rfl,hs61,hs63,hs65⟩ hpk_ (by omega))) (fun h69=>?_) fun h69=>?_
  ·refine U' 2 r'<|V' 5 r' ?_
   have hdp_:A4E (gt w.Sheets k).Sheet w.Base.Ticks (gt l k):=(by first|assumption|exact Classical.not_not.1 (by assumption))
   refine have hdl_:=hdp_.1.1.2.1;have hof_:=A9R hsp_.1.1;q' 2 r'<|have hp70:=K9 hp13;f' r' t'<|have hp71:=N3 hp70;f' r' t'<|s' hp71 r' fun v72 hs73=>have hl74:=hs73.le;v' 1 r'<|P5 (A0V runUnderlying47 sizeOf128 rfl rfl hs73 (by omega) (by omega)) (by decide) fun p75 hp76=>g' hp76 r' fun c77 hc78=>?_
   obtain⟨v79,rfl,hs80⟩:=hc78
   refine have hl81:=hs80.le;T6 (E6 A6R rfl rfl rfl (by decide)) (by decide) fun b82=>?_
   refine G2 (W4 (k:=1) (n':=((stL w k)++[gt w.Base.Stations (((U7 w.Base.Stations (((gt w.Sheets k).Station))).1:Int).toNat)]).length) A6R rfl rfl rfl rfl rfl (A4 rfl (A4 rfl (A4 rfl (A4 hs80.one C0)))) (by simp) (by first|omega|(simp;omega)) (by first|omega|(simp;omega))) (by decide) (fun v83=>?_)
   refine have hx84:=X6 (a:=gt w.Base.Stations (((U7 w.Base.Stations (((gt w.Sheets k).Station))).1:Int).toNat)) hx_ ⟨_,rfl,hs80⟩;v' 3 r'<|B4 14 [11,12] [12]<|U' 3 r'<|X' k hl r' r' r' r' fun p85 hp86=>have hp87:=J1 hp86;Y' r' r' (A.f r')<|S' hp87 r' r' r' fun v88 hs89=>have hl90:=hs89.le;have hp91:=K9 hp13;Y' r' r' (A.f r')<|have hp92:=A1E hp91;Y' r' r' (A.f r')<|Y' r' r' (A.i r' hp92)<|G9 r' r' (A0V runUnderlying27 sizeOf3 rfl rfl hs89 (by omega) (by omega)) (by decide) fun p93 hp94=>Y' r' r' (A.i r' hp94)<|P4 r' r' r' (E6 L6 rfl rfl rfl (by decide)) (by decide) fun b95=>?_
   refine V0 rfl rfl rfl rfl (E2 (k:=0) (a:=gt ((gt l k).Levels) ((w.Base.Term:Int).toNat)) L6 rfl rfl rfl rfl (by first|omega|(simp;done)|(simp;omega)) (by decide)) (by decide) (fun v96=>?_)
   refine U' 1 r'<|V' 8 r' ?_
   have he97:((stL w k)++[gt w.Base.Stations (((U7 w.Base.Stations (((gt w.Sheets k).Station))).1:Int).toNat)])=(stL w (k+1)):=(L4 _ _).symm
   rw[he97]
   rw[he97]at hx84
   have he98:((lvL w l k)++[gt ((gt l k).Levels) ((w.Base.Term:Int).toNat)])=(lvL w l (k+1)):=(L4 _ _).symm
   rw[he98]
   refine nx ((k+1,v83,xs++[J ((gt w.Base.Stations (((U7 w.Base.Stations (((gt w.Sheets k).Station))).1:Int).toNat)).ID),J ((gt w.Base.Stations (((U7 w.Base.Stations (((gt w.Sheets k).Station))).1:Int).toNat)).X),J ((gt w.Base.Stations (((U7 w.Base.Stations (((gt w.Sheets k).Station))).1:Int).toNat)).Y),v79],v96,mm)) ?_ ?_
   ·exact⟨hmm,hx84,by omega,fun j hj=>by rcases Nat.lt_succ_iff_lt_or_eq.1 hj with h|h;exact hall j h;subst h;assumption⟩
   (dsimp only;omega)
  exact U' 2 r'<|V' 14 r'<|A0 r' r'<|A7<|A3S
 refine v' 9 r' ?_
 have hks_:k=w.Sheets.length:=(by omega)
 have hkk_:k=w.Sheets.length:=(by omega)
 have he99:(stL w k)=(stL w w.Sheets.length):=(by rw[hkk_])
 rw[he99]
 rw[he99]at hx_
 have he100:(lvL w l k)=(lvL w l w.Sheets.length):=(by rw[hkk_])
 rw[he100]
 refine N4 1 rfl rfl hx_ (by first|(unfold stL;rw[C4];unfold C8;omega)|(unfold lvL;rw[C4];unfold C8;omega)) (fun m101 hle102 hs103=>?_)
 replace hp13:=hp13.mono hle102
 refine E1 0 rfl rfl (by first|(unfold stL;rw[C4];unfold C8;omega)|(unfold lvL;rw[C4];unfold C8;omega)) (fun m104 hle105 hs106=>?_)
 refine have hp13:=hp13.mono hle105;have hs103:=hs103.mono hle105;q' 1 r'<|have hp107:=K9 hp13;f' r' t'<|have hp108:=A4i hp107;f' r' t'<|g' hp108 r' fun c109 hc110=>?_
 obtain rfl:=hc110
 refine v' 1 r'<|have hp111:=A2O hp13;f' r' t'<|i' hp111 r'<|v' 1 r'<|y' (X.call call43 rfl (B5W _ _ w.Base.Wind rfl _ _ hs103 _ _ _ hs106))<|v' 10 r'<|c' (X.eql r' r') (fun h112=>?_) fun h112=>?_
 ·exact v' 8 r'<|A0 r' r'<|A7<|A3S
 exact v' 7 r'<|A0 r' r'<|A7<|A3S
end Go.Proofs.S10
namespace Go.Proofs.S10
open Tryz
set_option maxRecDepth 20000
open Go Go.Kx Go.Proofs.T10
theorem C4y(m:Mem)(cw:List Value)(w:WeekT)(hw:Enc.rd m cw w)(vl:Value)(l:List Course)(hl:Sl m vl l)(hz_:U9 w=0)(hc_:A7k w l):Pure prog 45 #[.agg cw.toArray,vl] m (fun m' v=>∃L:List ClaimT,Sl m' v L∧(L.length=0↔A9s w l)):=by
 obtain⟨v1,v3,v5,rfl,hs2,hs4,hs6⟩:=hw
 refine have hl7:=hs2.le;have hl8:=hs4.le;have hl9:=hs6.le;have ll:=hl.le;have hw_:=(A2M hz_).2;have hwl_:=hw_.2.1;have hcl_:=hc_.1;H7 func45 r' ntmps45 fun wld=>q' 2 r'<|o' r' r' fun b10=>v' 4 r'<|fz (x:=w) 0 r' r' ⟨_,_,_,rfl,hs2,hs4,hs6⟩ fun m11 hle12 hp13=>have hl:=hl.mono hle12;G7 ClaimT 231<|q' 11 r' ?_
 refine lp (G:=Nat×List ClaimT×Value×Mem) (fun(i,Mi,ui,mmi)=>w.Sheets.length-i) (fun(i,Mi,ui,mmi)=>mmi) (fun(i,Mi,ui,mmi)=>[A5 (ui) 231 (Mi)]) (fun(i,Mi,ui,mmi)=>[(1,vl),(2,Pt b10 0),(5,ui),(6,J i)]) (fun(i,Mi,ui,mmi)=>m11.le mmi∧i≤w.Sheets.length∧Mi.length≤i*64∧(Mi.length=0↔mkA w l i)) ((0,([]:List ClaimT),Value.slice none 0 0,m11)) ?_ ?_
 ·exact⟨Mem.le_refl _,Nat.zero_le _,by first|omega|simp,C1q⟩
 rintro⟨i,Mi,ui,mmi⟩ hF14
 obtain⟨hmmi,hi,hbi_,hIi_⟩:=hF14
 replace hl:=hl.mono hmmi
 replace hp13:=hp13.mono hmmi
 have hmk_:i<w.Sheets.length→(gt w.Sheets i).Marks.length≤64:=fun h_=>(A8J hw_ h_).n
 refine q' 4 r'<|have hp15:=N1 hp13;f' r' t'<|s' hp15 r' fun v16 hs17=>have hl18:=hs17.le;l' hs17 r'<|c' (X.lss r' r') (fun h19=>?_) fun h19=>?_
 ·refine v' 13 r' ?_
  refine lp (G:=Nat×List ClaimT×Value×Mem) (fun(k,Mk,uk,mmk)=>(gt w.Sheets i).Marks.length-k) (fun(k,Mk,uk,mmk)=>mmk) (fun(k,Mk,uk,mmk)=>[A5 (uk) 231 (Mk)]) (fun(k,Mk,uk,mmk)=>[(1,vl),(2,Pt b10 0),(5,uk),(6,J i),(7,J k)]) (fun(k,Mk,uk,mmk)=>mmi.le mmk∧k≤(gt w.Sheets i).Marks.length∧Mk.length≤i*64+k∧(Mk.length=0↔mkB w l i k)) ((0,Mi,ui,mmi)) ?_ ?_
  ·exact⟨Mem.le_refl _,Nat.zero_le _,by first|omega|simp,hIi_.trans C1X⟩
  rintro⟨k,Mk,uk,mmk⟩ hF20
  obtain⟨hmmk,hk,hbk_,hIk_⟩:=hF20
  refine have hl:=hl.mono hmmk;have hp13:=hp13.mono hmmk;q' 4 r'<|have hp21:=N1 hp13;f' r' t'<|s' hp21 r' fun v22 hs23=>have hl24:=hs23.le;v' 1 r'<|x' i hs23 r' r' fun p25 hp26=>have hp27:=A1M hp26;f' r' t'<|s' hp27 r' fun v28 hs29=>have hl30:=hs29.le;l' hs29 r'<|c' (X.lss r' r') (fun h31=>?_) fun h31=>?_
  ·refine v' 9 r'<|have hp32:=N1 hp13;f' r' t'<|s' hp32 r' fun v33 hs34=>have hl35:=hs34.le;v' 1 r'<|x' i hs34 r' r' fun p36 hp37=>have hp38:=A1M hp37;f' r' t'<|s' hp38 r' fun v39 hs40=>have hl41:=hs40.le;v' 1 r'<|x' k hs40 r' r' fun p42 hp43=>g' hp43 r' fun c44 hc45=>?_
   obtain rfl:=hc45
   refine n' zeroValue98 r' fun b46=>w' 0 r' r' r'<|v' 3 r'<|fz (x:=gt (gt w.Sheets i).Marks k) 0 r' r' r' fun m47 hle48 hp49=>?_
   replace hl:=hl.mono hle48
   replace hp13:=hp13.mono hle48
   have hmc_:=B2A hw_ (i:=i) (k:=k) (by omega) (by omega)
   have hdp_:=(hc_.2.1 i (by omega)).1.1.1
   refine K7 (π:=sq [0,1,3,4,5,6,7,8,9,10,11,2,12,13] .done) [2] [] r' (by kernel_rfl)<|have hp50:=B8J hp49;Y' r' r' (A.f r')<|G' hp50 r' r' r' fun c51 hc52=>?_
   obtain rfl:=hc52
   refine U' 2 r'<|X' i hl r' r' r' r' fun p53 hp54=>have hp55:=K3 hp54;Y' r' r' (A.f r')<|S' hp55 r' r' r' fun v56 hs57=>have hl58:=hs57.le;have hp59:=B9c hp49;Y' r' r' (A.f r')<|Y' r' r' (A.i r' hp59)<|G9 r' r' (A0V runUnderlying27 sizeOf3 rfl rfl hs57 (by omega) (by omega)) (by decide) fun p60 hp61=>Y' r' r' (A.i r' hp61) ?_
   refine A1V rfl rfl rfl (L5 (α:=Span) (vals:=[.agg [J (((gt (gt w.Sheets i).Marks k).Ticks).Lo),J (((gt (gt w.Sheets i).Marks k).Ticks).Hi)].toArray]) (L:=[(gt (gt w.Sheets i).Marks k).Ticks]) Q7 rfl (.cons rfl rfl .nil) rfl rfl) (by decide) (fun m62 v63 hle64 hs65=>?_)
   refine have hl:=hl.mono hle64;have hp13:=hp13.mono hle64;C' r' r' (X.call call29 rfl (C0f _ _ _ hs65 _)) (fun h66=>?_) fun h66=>?_
   ·refine U' 1 r'<|V' 11 r' ?_
    refine nx ((k+1,Mk,uk,m62)) ?_ ?_
    ·exact⟨(Mem.le_trans hmmk (Mem.le_trans hle48 hle64)),by omega,by first|omega|(simp only[List.length_append,List.length_cons,List.length_nil];omega),hIk_.trans (C4t (by first|assumption|exact Classical.not_not.1 (by assumption)))⟩
    (dsimp only;omega)
   refine U' 1 r'<|V' 6 r'<|WL.x (V:=Value.agg [J 1,J i,J k].toArray) (X.build zeroValue231 runUnderlying231 (B2b _ underlying231) rfl rfl) (by decide) ?_
   refine T6 (E6 B2v rfl rfl rfl (by decide)) (by decide) fun b67=>?_
   refine G2 (E2 (k:=0) (a:=(ClaimT.mk (1) (↑i) (↑k))) B2v rfl rfl rfl rfl (by first|omega|(simp;done)|(simp;omega)) (by decide)) (by decide) (fun v68=>?_)
   refine v' 10 r' ?_
   refine nx ((k+1,Mk++[(ClaimT.mk (1) (↑i) (↑k))],v68,m62)) ?_ ?_
   ·exact⟨(Mem.le_trans hmmk (Mem.le_trans hle48 hle64)),by omega,by first|omega|(simp only[List.length_append,List.length_cons,List.length_nil];omega),B2X (C5a (by assumption))⟩
   (dsimp only;omega)
  refine v' 15 r' ?_
  refine nx ((i+1,Mk,uk,mmk)) ?_ ?_
  ·exact⟨(Mem.le_trans hmmi hmmk),by omega,by first|omega|(simp only[List.length_append,List.length_cons,List.length_nil];omega),hIk_.trans (C2Z (by omega))⟩
  (dsimp only;omega)
 refine v' 15 r' ?_
 refine lp (G:=Nat×List ClaimT×Value×Mem) (fun(q,Mq,uq,mmq)=>w.Reads.length-q) (fun(q,Mq,uq,mmq)=>mmq) (fun(q,Mq,uq,mmq)=>[A5 (uq) 231 (Mq)]) (fun(q,Mq,uq,mmq)=>[(1,vl),(2,Pt b10 0),(5,uq),(9,J q)]) (fun(q,Mq,uq,mmq)=>mmi.le mmq∧q≤w.Reads.length∧Mq.length≤4096+q*64∧(Mq.length=0↔rdA w l q)) ((0,Mi,ui,mmi)) ?_ ?_
 ·exact⟨Mem.le_refl _,Nat.zero_le _,by first|omega|simp,hIi_.trans (C2n (by omega))⟩
 rintro⟨q,Mq,uq,mmq⟩ hF69
 obtain⟨hmmq,hq,hbq_,hIq_⟩:=hF69
 refine have hl:=hl.mono hmmq;have hp13:=hp13.mono hmmq;q' 4 r'<|have hp70:=A2x hp13;f' r' t'<|s' hp70 r' fun v71 hs72=>have hl73:=hs72.le;l' hs72 r'<|c' (X.lss r' r') (fun h74=>?_) fun h74=>?_
 ·refine v' 9 r'<|have hp75:=A2x hp13;f' r' t'<|s' hp75 r' fun v76 hs77=>have hl78:=hs77.le;v' 1 r'<|x' q hs77 r' r' fun p79 hp80=>g' hp80 r' fun c81 hc82=>?_
  obtain rfl:=hc82
  refine n' zeroValue196 r' fun b83=>w' 0 r' r' r'<|v' 3 r'<|fz (x:=gt w.Reads q) 0 r' r' r' fun m84 hle85 hp86=>have hl:=hl.mono hle85;have hp13:=hp13.mono hle85;q' 5 r' ?_
  refine lp (G:=Nat×List ClaimT×Value×Mem) (fun(j,Mj,uj,mmj)=>w.Sheets.length-j) (fun(j,Mj,uj,mmj)=>mmj) (fun(j,Mj,uj,mmj)=>[A5 (uj) 231 (Mj)]) (fun(j,Mj,uj,mmj)=>[(1,vl),(2,Pt b10 0),(5,uj),(9,J q),(10,Pt b83 0),(11,J j)]) (fun(j,Mj,uj,mmj)=>m84.le mmj∧j≤w.Sheets.length∧Mj.length≤4096+q*64+j∧(Mj.length=0↔rdB w l q j)) ((0,Mq,uq,m84)) ?_ ?_
  ·exact⟨Mem.le_refl _,Nat.zero_le _,by first|omega|simp,hIq_.trans C0V⟩
  rintro⟨j,Mj,uj,mmj⟩ hF87
  obtain⟨hmmj,hj,hbj_,hIj_⟩:=hF87
  refine have hl:=hl.mono hmmj;have hp13:=hp13.mono hmmj;have hp86:=hp86.mono hmmj;q' 4 r'<|have hp88:=N1 hp13;f' r' t'<|s' hp88 r' fun v89 hs90=>have hl91:=hs90.le;l' hs90 r'<|c' (X.lss r' r') (fun h92=>?_) fun h92=>?_
  ·refine v' 8 r' ?_
   have hrq_:=hw_.2.2.2 q (by omega)
   unfold A2G at hrq_
   have hdp_:=(hc_.2.1 j (by omega)).1.1.2.1
   refine K7 (π:=sq [0,1,2,3,4,5,6,7,8,9,10,11,13,14,15,16,17,18,19,20,21,12,22,23,24] .done) [12] [] r' (by kernel_rfl)<|have hp93:=N1 hp13;Y' r' r' (A.f r')<|S' hp93 r' r' r' fun v94 hs95=>have hl96:=hs95.le;U' 1 r'<|X' j hs95 r' r' r' r' fun p97 hp98=>have hp99:=P7 hp98;Y' r' r' (A.f r')<|Y' r' r' (A.i r' hp99)<|have hp100:=A1C hp86;Y' r' r' (A.f r')<|Y' r' r' (A.i r' hp100)<|C' r' r' (X.eql r' r') (fun h101=>?_) fun h101=>?_
   ·refine U' 1 r'<|have hp102:=A3U hp86;Y' r' r' (A.f r')<|G' hp102 r' r' r' fun c103 hc104=>?_
    obtain rfl:=hc104
    refine U' 2 r'<|X' j hl r' r' r' r' fun p105 hp106=>have hp107:=J1 hp106;Y' r' r' (A.f r')<|S' hp107 r' r' r' fun v108 hs109=>have hl110:=hs109.le;have hp111:=A3V hp86;Y' r' r' (A.f r')<|Y' r' r' (A.i r' hp111)<|G9 r' r' (A0V runUnderlying27 sizeOf3 rfl rfl hs109 (by omega) (by omega)) (by decide) fun p112 hp113=>Y' r' r' (A.i r' hp113) ?_
    refine A1V rfl rfl rfl (L5 (α:=Span) (vals:=[.agg [J (((gt w.Reads q).Levels).Lo),J (((gt w.Reads q).Levels).Hi)].toArray]) (L:=[(gt w.Reads q).Levels]) Q7 rfl (.cons rfl rfl .nil) rfl rfl) (by decide) (fun m114 v115 hle116 hs117=>?_)
    refine C' r' r' (X.call call29 rfl (C0f _ _ _ hs117 _)) (fun h118=>?_) fun h118=>?_
    ·refine U' 2 r'<|V' 11 r' ?_
     refine nx ((j+1,Mj,uj,m114)) ?_ ?_
     ·exact⟨(Mem.le_trans hmmj hle116),by omega,by first|omega|(simp only[List.length_append,List.length_cons,List.length_nil];omega),hIj_.trans (B5y (fun h_=>by first|assumption|contradiction|exact Classical.not_not.1 (by assumption)))⟩
     (dsimp only;omega)
    refine U' 2 r'<|V' 5 r'<|WL.x (V:=Value.agg [J 2,J 0,J q].toArray) (X.build zeroValue231 runUnderlying231 (B2b _ underlying231) rfl rfl) (by decide) ?_
    refine T6 (E6 B2v rfl rfl rfl (by decide)) (by decide) fun b119=>?_
    refine G2 (E2 (k:=0) (a:=(ClaimT.mk (2) (0) (↑q))) B2v rfl rfl rfl rfl (by first|omega|(simp;done)|(simp;omega)) (by decide)) (by decide) (fun v120=>?_)
    refine v' 10 r' ?_
    refine nx ((j+1,Mj++[(ClaimT.mk (2) (0) (↑q))],v120,m114)) ?_ ?_
    ·exact⟨(Mem.le_trans hmmj hle116),by omega,by first|omega|(simp only[List.length_append,List.length_cons,List.length_nil];omega),B2X (C5F (fun h_=>absurd (h_ (by assumption)) (by assumption)))⟩
    (dsimp only;omega)
   refine U' 16 r'<|V' 11 r' ?_
   refine nx ((j+1,Mj,uj,mmj)) ?_ ?_
   ·exact⟨hmmj,by omega,by first|omega|(simp only[List.length_append,List.length_cons,List.length_nil];omega),hIj_.trans (B5y (fun h_=>by first|assumption|contradiction|exact Classical.not_not.1 (by assumption)))⟩
   (dsimp only;omega)
  refine v' 15 r' ?_
  refine nx ((q+1,Mj,uj,mmj)) ?_ ?_
  ·exact⟨(Mem.le_trans hmmq (Mem.le_trans hle85 hmmj)),by omega,by first|omega|(simp only[List.length_append,List.length_cons,List.length_nil];omega),hIj_.trans (C3i (by omega))⟩
  (dsimp only;omega)
 refine v' 15 r' ?_
 refine E1 0 rfl rfl (by unfold C8;omega) (fun m121 hle122 hs123=>?_)
 exact A0 r' r'<|C5<|⟨_,hs123,hIq_.trans (C3a (by omega))⟩
theorem B2H{G:Prop}(h:G:=by first|exact A9 (fun h_=>absurd h_.1 (by assumption))|exact D5 ⟨fun h_=>⟨by assumption,hL42.1 (by omega)⟩,fun h_=>by have h1_:=hL42.2 h_.2;omega⟩):G:=h
theorem B2n(m:Mem)(cw:List Value)(w:WeekT)(hw:Enc.rd m cw w)(vl:Value)(l:List Course)(hl:Sl m vl l)(hz_:U9 w=0):Exact prog 15 #[.agg cw.toArray,vl] m (.bool (decide (A0T w l))):=by
 obtain⟨v1,v3,v5,rfl,hs2,hs4,hs6⟩:=hw
 refine have hl7:=hs2.le;have hl8:=hs4.le;have hl9:=hs6.le;have ll:=hl.le;C7 func15 r' ntmps15 fun wld=>q' 2 r'<|o' r' r' fun b10=>v' 4 r'<|fz (x:=w) 0 r' r' ⟨_,_,_,rfl,hs2,hs4,hs6⟩ fun m11 hle12 hp13=>have hl:=hl.mono hle12;q' 1 r'<|g' hp13 r' fun c14 hc15=>?_
 obtain⟨v16,v18,v20,rfl,hs17,hs19,hs21⟩:=hc15
 refine have hl22:=hs17.le;have hl23:=hs19.le;have hl24:=hs21.le;v' 1 r'<|c' (X.call call44 rfl (C4F _ _ w ⟨_,_,_,rfl,hs17,hs19,hs21⟩ _ _ hl (by assumption))) (fun h25=>?_) fun h25=>?_
 ·refine v' 2 r'<|g' hp13 r' fun c26 hc27=>?_
  obtain⟨v28,v30,v32,rfl,hs29,hs31,hs33⟩:=hc27
  refine have hl34:=hs29.le;have hl35:=hs31.le;have hl36:=hs33.le;v' 3 r' ?_
  refine D1 (T.call call45 rfl (C4y _ _ w ⟨_,_,_,rfl,hs29,hs31,hs33⟩ _ _ hl hz_ (by assumption))) (by decide) (fun m37 v39 hle38 hR_=>?_)
  obtain⟨L40,hs41,hL42⟩:=hR_
  exact v' 1 r'<|l' hs41 r'<|v' 7 r'<|A0 r' r'<|A7<|B2H
 exact v' 11 r'<|A0 r' r'<|A7<|B2H
end Go.Proofs.S10
