import Derived.Test.YtooomcigmleneaaGreatKxW
import Derived.Test.YtooomcigmleneaaGreatKyP
import Derived.Test.YtooomcigmleneaaGreatT10Ty
import Derived.Test.YtooomcigmleneaaGreatKxU
import Derived.Test.YtooomcigmleneaaGreatT10W37
set_option linter.all false
set_option maxHeartbeats 8000000
namespace Go.Proofs.S10
open Tryz
set_option maxRecDepth 20000
open Go Go.Kx Go.Proofs.T10
variable{N fb n:Nat}
theorem A2Z(m:Mem)(cx:List Value)(x:Sheet)(hx:Enc.rd m cx x)(hb_:shB x):Pure prog 165 #[.agg cx.toArray] m (fun m' v=>∃r0,v= .agg r0.toArray∧Enc.rd m' r0 (x)):=by
 obtain⟨v1,v3,v5,v7,rfl,hs2,hs4,hs6,hs8⟩:=hx
 have hl9:=hs2.le
 have hl10:=hs4.le
 have hl11:=hs6.le
 have hl12:=hs8.le
 unfold shB at hb_
 refine H7 func165 r' ntmps165 fun wld=>q' 2 r'<|o' r' r' fun b13=>n' zeroValue35 r' fun b14=>v' 3 r'<|K7 (π:=sq [0,1,3,4,2,6,5,7,8,9] .done) [2,5,7,9] [7,9] r' (by kernel_rfl)<|Y' r' r' (A.f r')<|Y' r' r' (A.b 1 r' r' r')<|Y' r' r' (A.f r')<|Y' r' r' (A.b 1 r' r' r') ?_
 refine A3m rfl rfl rfl (J5 call236 rfl (C1o _ hs2 (by omega))) (by decide) (fun m15 Es16 v17 hle18 hR_=>?_)
 obtain⟨rfl,ho19⟩:=hR_
 refine have hs4:=hs4.mono hle18;have hs6:=hs6.mono hle18;have hs8:=hs8.mono hle18;Y' r' r' (A.f r') ?_
 refine A3m rfl rfl rfl (J5 call237 rfl (C1i _ hs4 (by omega))) (by decide) (fun m20 Es21 v22 hle23 hR_=>?_)
 obtain⟨rfl,ho24⟩:=hR_
 refine have hs6:=hs6.mono hle23;have hs8:=hs8.mono hle23;B3 r' r' r' r' (T.storeB (k:=3) sizeOf26 rfl rfl rfl ho19 (Nat.le_of_ble_eq_true rfl))<|Y' r' r' (A.f r')<|B3 r' r' r' r' (T.storeB (k:=3) sizeOf27 rfl rfl rfl ho24 (Nat.le_of_ble_eq_true rfl))<|V' 2 r'<|K7 (π:=sq [0,1,2,4,5,6,3,7,8,9,10] .done) [3,7,10] [10] r' (by kernel_rfl)<|Y' r' r' (A.f r')<|Y' r' r' (A.f r')<|Y' r' r' (A.b 3 r' r' r')<|Y' r' r' (A.f r')<|Y' r' r' (A.f r')<|Y' r' r' (A.b 3 r' r' r') ?_
 refine A3m rfl rfl rfl (J5 call207 rfl (A5Y _ hs6 (by omega))) (by decide) (fun m25 Es26 v27 hle28 hR_=>?_)
 obtain⟨rfl,ho29⟩:=hR_
 replace hs8:=hs8.mono hle28
 refine A3m rfl rfl rfl (J5 call238 rfl (B9Y _ hs8 (by omega))) (by decide) (fun m30 Es31 v32 hle33 hR_=>?_)
 obtain⟨rfl,ho34⟩:=hR_
 refine DW.y (V:=Value.agg [v27,v32].toArray) rfl rfl (X.build zeroValue31 runUnderlying31 (B4i _ underlying31) rfl (by simp only[Instr.fill,F4 ho29,F4 ho34];rfl)) ?_
 refine Y' r' r' (A.f r')<|B3 r' r' r' r' (S3 (k:=5) [J x.Paper.Pitch,J x.Paper.Height,J x.Paper.Radius,J x.Paper.Low,J x.Paper.High,J x.Paper.Columns,J x.Paper.Along.Lo,J x.Paper.Along.Hi,J x.Paper.Across.Lo,J x.Paper.Across.Hi,v17,v22,v27,v32,J x.Pen.Band,J x.Pen.Zero.Lo,J x.Pen.Zero.Hi,J x.Pen.Rate] sizeOf31 rfl rfl rfl (A4 ho29 (A4 ho34 C0)) rfl rfl rfl)<|V' 3 r'<|a' 5 r' r'<|w' 4 r' r' r'<|v' 3 r' ?_
 refine E1 3 rfl rfl (by unfold C8;omega) (fun m35 hle36 hs37=>?_)
 refine E1 2 rfl rfl (by unfold C8;omega) (fun m38 hle39 hs40=>?_)
 replace hs37:=hs37.mono hle39
 refine E1 1 rfl rfl (by unfold C8;omega) (fun m41 hle42 hs43=>?_)
 replace hs37:=hs37.mono hle42
 replace hs40:=hs40.mono hle42
 refine E1 0 rfl rfl (by unfold C8;omega) (fun m44 hle45 hs46=>?_)
 exact have hs37:=hs37.mono hle45;have hs40:=hs40.mono hle45;have hs43:=hs43.mono hle45;T3 0 r' r' r' isAgg35 sizeOf35<|C5<|⟨_,rfl,⟨_,_,_,_,rfl,hs37,hs40,hs43,hs46⟩⟩
theorem C0N(m:Mem)(cn:List Value)(x:NoteT)(hn_:Enc.rd m cn x){f0 f1 f2 f3 f4 f5 f6 f7:Nat}{vS vR vT vC:Value}{xS xT:List Value}{LS:List FiledT}{LR:List ReadT}{LT:List Station}{ps:List (Nat×Nat)}{K:Nat}(hM0:MapN m f0)(hM1:MapN m f1)(hxS:RdL m xS LS)(hxT:RdL m xT LT)(hbd:LS.length≤n∧LR.length≤n∧K≤n∧LT.length=N∧N≤1000)(hts:A3R LT)(hfi:∀a∈LS,fiB a)(hn:n≤5000)(hsb:shB x.Sheet):Mut prog 159 #[Pt fb 0,.agg cn.toArray] m [blk fb 289 [.map (some f0),.map (some f1),.map (some f2),.map (some f3),.map (some f4),.map (some f5),.map (some f6),.map (some f7),vS,vR,vT,vC],mapE f2 NName O7,mapE f3 NName (InPool ps K),mapE f4 NName (E9 Mark),mapE f5 NName (E9 NName),mapE f6 NName (E9 ReadT),mapE f7 NName W6,row (vS) 76 24 (LS).length (xS),A5 (vR) 196 (LR),row (vT) 128 4 (LT).length (xT),A5 (vC) 73 (([]:List NName)),I5 73 2 ps] (FoR fb (n+1) N):=by
 obtain⟨v1,v3,v5,v7,rfl,hs2,hs4,hs6,hs8⟩:=hn_
 refine have hl9:=hs2.le;have hl10:=hs4.le;have hl11:=hs6.le;have hl12:=hs8.le;G3 func159 r' ntmps159 fun wld=>q' 2 r'<|o' r' r' fun b13=>v' 2 r'<|fx (x:=x) 1 0 r' r' ⟨_,_,_,_,rfl,hs2,hs4,hs6,hs8⟩ fun m14 hle15 hp16=>?_
 replace hM0:=hM0.mono hle15
 replace hM1:=hM1.mono hle15
 replace hxS:=hxS.mono hle15
 replace hxT:=hxT.mono hle15
 refine cu (G:=Mem×Nat×Int×Int) (fun(m17,b35,z33,z34)=>m17) (fun(m17,b35,z33,z34)=>[blk b35 296 [.pointer none,J z33,J z34],blk fb 289 [.map (some f0),.map (some f1),.map (some f2),.map (some f3),.map (some f4),.map (some f5),.map (some f6),.map (some f7),vS,vR,vT,vC],mapE f2 NName O7,mapE f3 NName (InPool ps K),mapE f4 NName (E9 Mark),mapE f5 NName (E9 NName),mapE f6 NName (E9 ReadT),mapE f7 NName W6,row (vS) 76 24 (LS).length (xS),A5 (vR) 196 (LR),row (vT) 128 4 (LT).length (xT),A5 (vC) 73 (([]:List NName)),I5 73 2 ps]) (fun(m17,b35,z33,z34)=>[(0,Pt fb 0),(3,Pt b13 0),(4,Pt b35 0)]) (fun(m17,b35,z33,z34)=>m14.le m17) ?_ ?_
 ·refine K7 (π:=sq [0,1,2,3,4,5] (.fork (sq [6,7,8] .done) (sq [7,6,8] .done))) [6,7,8] [8] r' (by kernel_rfl)<|U' 2 r'<|Y' r' r' (A.f r')<|Y' r' r' (A.b 0 r' r' r')<|G' hp16 r' r' r' fun c18 hc19=>?_
  obtain⟨v20,v22,v24,v26,rfl,hs21,hs23,hs25,hs27⟩:=hc19
  refine have hl28:=hs21.le;have hl29:=hs23.le;have hl30:=hs25.le;have hl31:=hs27.le;Y' r' r' (X.call call154 rfl (H9 _ _ x ⟨_,_,_,_,rfl,hs21,hs23,hs25,hs27⟩)) ?_
  refine DW.fork (List.cons_ne_nil _ _) ?_ ?_
  ·refine A0U rfl rfl rfl (T8 (k:=(G4 x)) runUnderlying282 F5 zeroValue296 rfl rfl (show B2 _ 1=_ from rfl) C2K) (by decide) (fun u32 hV33=>?_)
   obtain⟨z34,z35,rfl⟩:=hV33
   exact Q9 r' r' r' (T.alloc zeroValue296 rfl) (by decide) fun b36=>W' 0 r' r' r' r' r'<|V' 1 r'<|mt (m14,b36,z34,z35)<|Mem.le_refl _
  refine Q9 rfl rfl rfl (T.alloc zeroValue296 rfl) (by decide) fun b37=>?_
  refine A0U rfl rfl rfl (T8 (k:=(G4 x)) runUnderlying282 F5 zeroValue296 rfl rfl (show B2 _ 2=_ from rfl) C2K) (by decide) (fun u38 hV39=>?_)
  obtain⟨z40,z41,rfl⟩:=hV39
  exact W' 0 r' r' r' r' r'<|V' 1 r'<|mt (m14,b37,z40,z41)<|Mem.le_refl _
 rintro⟨m17,b35,z33,z34⟩ hle42
 conv=>enter [7];dsimp only
 conv=>enter [8];dsimp only
 refine have hM0:=hM0.mono hle42;have hM1:=hM1.mono hle42;have hxS:=hxS.mono hle42;have hxT:=hxT.mono hle42;have hp16:=hp16.mono hle42;q' 2 r'<|B4 14 [] []<|U' 2 r'<|Y' r' r' (A.f r')<|Y' r' r' (J2 (k:=1) (vs:=[vS,vR,vT,vC]) isAgg58 sizeOf58 rfl rfl rfl rfl)<|Y' r' r' (A.f r')<|Y' r' r' (A.b 0 r' r' r')<|Y' r' r' (A.f r')<|Y' r' r' (A.b 0 r' r' r')<|Y' r' r' (A7V call234 rfl (fun w_ hw_=>B7l _ _ (RegT.mk LS LR LT (([]:List NName))) ⟨_,_,_,_,rfl,(hw_.rowSl (k:=8) rfl hxS (show(LS).length≤C8 from by unfold C8;first|omega|exact Nat.zero_le _)),(hw_.rowFSl (k:=9) rfl (show(LR).length≤C8 from by unfold C8;first|omega|exact Nat.zero_le _)),(hw_.rowSl (k:=10) rfl hxT (show(LT).length≤C8 from by unfold C8;first|omega|exact Nat.zero_le _)),(hw_.rowFSl (k:=11) rfl (show(([]:List NName)).length≤C8 from by unfold C8;first|omega|exact Nat.zero_le _))⟩ _ _))<|U' 5 r'<|V' 4 r'<|c' (X.eql r' r') (fun h43=>?_) fun h43=>?_
 ·refine v' 6 r'<|g' hp16 r' fun c44 hc45=>?_
  obtain⟨v46,v48,v50,v52,rfl,hs47,hs49,hs51,hs53⟩:=hc45
  have hl54:=hs47.le
  have hl55:=hs49.le
  have hl56:=hs51.le
  have hl57:=hs53.le
  refine C2 (I3 [1,6] call162 r' (Q5 _ _ x ⟨_,_,_,_,rfl,hs47,hs49,hs51,hs53⟩ hM0)) (by decide) (fun m58 Es_ u_ hle59 hR_=>?_)
  obtain⟨rfl,rfl⟩:=hR_
  refine have hM0:=hM0.mono hle59;have hM1:=hM1.mono hle59;have hxS:=hxS.mono hle59;have hxT:=hxT.mono hle59;have hp16:=hp16.mono hle59;v' 4 r'<|WK.p [2,0,1,1,1,1,1] ?_
  refine F1 rfl (fun w' hw'=>B8 (hw'.weaken (.cons _ (.refl _))) ?_)
  exact⟨rfl,⟨fb,f0,f1,f2,f3,f4,f5,f6,f7,vS,xS,LS,vR,LR,vT,xT,LT,vC,ps,K⟩,rfl,rfl,⟨hM0,hM1,hxS,hxT,⟨(by first|omega|(simp only[List.length_append,List.length_cons,List.length_nil,List.length_set];omega)),(by first|omega|(simp only[List.length_append,List.length_cons,List.length_nil,List.length_set];omega)),(by first|omega|(simp only[List.length_append,List.length_cons,List.length_nil,List.length_set];omega)),(by first|omega|(simp only[List.length_append,List.length_cons,List.length_nil,List.length_set];omega)),hbd.2.2.2.2⟩,hts,hfi⟩⟩
 refine v' 5 r' ?_
 refine cu (G:=Mem×Nat×Value×Value×Value×Value) (fun(m60,b107,v95,v97,v99,v101)=>m60) (fun(m60,b107,v95,v97,v99,v101)=>[blk b107 76 [J ((G4 x).Clerk),J ((G4 x).Num),J z33,J z34,J x.Sheet.Paper.Pitch,J x.Sheet.Paper.Height,J x.Sheet.Paper.Radius,J x.Sheet.Paper.Low,J x.Sheet.Paper.High,J x.Sheet.Paper.Columns,J x.Sheet.Paper.Along.Lo,J x.Sheet.Paper.Along.Hi,J x.Sheet.Paper.Across.Lo,J x.Sheet.Paper.Across.Hi,v95,v97,v99,v101,J x.Sheet.Pen.Band,J x.Sheet.Pen.Zero.Lo,J x.Sheet.Pen.Zero.Hi,J x.Sheet.Pen.Rate,S0,S0],blk b35 296 [.pointer none,J z33,J z34],blk fb 289 [.map (some f0),.map (some f1),.map (some f2),.map (some f3),.map (some f4),.map (some f5),.map (some f6),.map (some f7),vS,vR,vT,vC],mapE f2 NName O7,mapE f3 NName (InPool ps K),mapE f4 NName (E9 Mark),mapE f5 NName (E9 NName),mapE f6 NName (E9 ReadT),mapE f7 NName W6,row (vS) 76 24 (LS).length (xS),A5 (vR) 196 (LR),row (vT) 128 4 (LT).length (xT),A5 (vC) 73 (([]:List NName)),I5 73 2 ps]) (fun(m60,b107,v95,v97,v99,v101)=>[(0,Pt fb 0),(3,Pt b13 0),(7,Pt b107 0)]) (fun(m60,b107,v95,v97,v99,v101)=>m17.le m60∧Sl (α:=Point) m60 v95 x.Sheet.Trace∧Sl (α:=Int) m60 v97 x.Sheet.Blots∧Sl (α:=Span) m60 v99 x.Sheet.Drum.Rates∧Sl (α:=Stp) m60 v101 x.Sheet.Drum.Stops) ?_ ?_
 ·refine K7 (π:=sq [0,1,2,3,4,5,6,7] (.fork (sq [8,9,10,11] .done) (sq [10,8,9,11] .done))) [8,10,11] [11] r' (by kernel_rfl)<|G' hp16 r' r' r' fun c61 hc62=>?_
  obtain⟨v63,v65,v67,v69,rfl,hs64,hs66,hs68,hs70⟩:=hc62
  refine have hl71:=hs64.le;have hl72:=hs66.le;have hl73:=hs68.le;have hl74:=hs70.le;Y' r' r' (X.call call154 rfl (H9 _ _ x ⟨_,_,_,_,rfl,hs64,hs66,hs68,hs70⟩))<|Y' r' r' (A.f r')<|Y' r' r' (A.b 0 r' r' r')<|Y' r' r' (A.f r')<|Y' r' r' (A.b 0 r' r' r')<|have hp75:=A1v hp16;Y' r' r' (A.f r')<|G' hp75 r' r' r' fun c76 hc77=>?_
  obtain⟨v78,v80,v82,v84,rfl,hs79,hs81,hs83,hs85⟩:=hc77
  have hl86:=hs79.le
  have hl87:=hs81.le
  have hl88:=hs83.le
  have hl89:=hs85.le
  refine DW.fork (List.cons_ne_nil _ _) ?_ ?_
  ·refine A1V rfl rfl rfl (T.call call165 rfl (A2Z _ _ x.Sheet ⟨_,_,_,_,rfl,hs79,hs81,hs83,hs85⟩ (by assumption))) (by decide) fun m90 r91 hle92 hR93=>?_
   obtain⟨c94,rfl,hc95⟩:=hR93
   replace hM0:=hM0.mono hle92
   replace hM1:=hM1.mono hle92
   replace hxS:=hxS.mono hle92
   replace hxT:=hxT.mono hle92
   replace hp16:=hp16.mono hle92
   replace hs79:=hs79.mono hle92
   replace hs81:=hs81.mono hle92
   replace hs83:=hs83.mono hle92
   replace hs85:=hs85.mono hle92
   obtain⟨v96,v98,v100,v102,rfl,hs97,hs99,hs101,hs103⟩:=hc95
   refine have hl104:=hs97.le;have hl105:=hs99.le;have hl106:=hs101.le;have hl107:=hs103.le;DW.x (V:=Value.agg [J ((G4 x).Clerk),J ((G4 x).Num),J z33,J z34,J x.Sheet.Paper.Pitch,J x.Sheet.Paper.Height,J x.Sheet.Paper.Radius,J x.Sheet.Paper.Low,J x.Sheet.Paper.High,J x.Sheet.Paper.Columns,J x.Sheet.Paper.Along.Lo,J x.Sheet.Paper.Along.Hi,J x.Sheet.Paper.Across.Lo,J x.Sheet.Paper.Across.Hi,v96,v98,v100,v102,J x.Sheet.Pen.Band,J x.Sheet.Pen.Zero.Lo,J x.Sheet.Pen.Zero.Hi,J x.Sheet.Pen.Rate,S0,S0].toArray) r' r' (X.build zeroValue76 runUnderlying76 (B2F _ underlying76) rfl (by kernel_rfl)) (by decide) ?_
   exact Q9 r' r' r' (T.alloc zeroValue76 rfl) (by decide) fun b108=>W' 0 r' r' r' r' r'<|V' 1 r'<|mt (m90,b108,v96,v98,v100,v102)<|⟨hle92,hs97,hs99,hs101,hs103⟩
  refine Q9 r' r' r' (T.alloc zeroValue76 rfl) (by decide) fun b109=>A1V r' r' r' (T.call call165 rfl (A2Z _ _ x.Sheet ⟨_,_,_,_,rfl,hs79,hs81,hs83,hs85⟩ (by assumption))) (by decide) fun m110 r111 hle112 hR113=>?_
  obtain⟨c114,rfl,hc115⟩:=hR113
  replace hM0:=hM0.mono hle112
  replace hM1:=hM1.mono hle112
  replace hxS:=hxS.mono hle112
  replace hxT:=hxT.mono hle112
  replace hp16:=hp16.mono hle112
  obtain⟨v116,v118,v120,v122,rfl,hs117,hs119,hs121,hs123⟩:=hc115
  refine have hl124:=hs117.le;have hl125:=hs119.le;have hl126:=hs121.le;have hl127:=hs123.le;DW.x (V:=Value.agg [J ((G4 x).Clerk),J ((G4 x).Num),J z33,J z34,J x.Sheet.Paper.Pitch,J x.Sheet.Paper.Height,J x.Sheet.Paper.Radius,J x.Sheet.Paper.Low,J x.Sheet.Paper.High,J x.Sheet.Paper.Columns,J x.Sheet.Paper.Along.Lo,J x.Sheet.Paper.Along.Hi,J x.Sheet.Paper.Across.Lo,J x.Sheet.Paper.Across.Hi,v116,v118,v120,v122,J x.Sheet.Pen.Band,J x.Sheet.Pen.Zero.Lo,J x.Sheet.Pen.Zero.Hi,J x.Sheet.Pen.Rate,S0,S0].toArray) r' r' (X.build zeroValue76 runUnderlying76 (B2F _ underlying76) rfl (by kernel_rfl)) (by decide) ?_
  exact W' 0 r' r' r' r' r'<|V' 1 r'<|mt (m110,b109,v116,v118,v120,v122)<|⟨hle112,hs117,hs119,hs121,hs123⟩
 rintro⟨m60,b107,v95,v97,v99,v101⟩ ⟨hle128,hs129,hs130,hs131,hs132⟩
 show WK _ _ m60 [blk b107 76 [J ((G4 x).Clerk),J ((G4 x).Num),J z33,J z34,J x.Sheet.Paper.Pitch,J x.Sheet.Paper.Height,J x.Sheet.Paper.Radius,J x.Sheet.Paper.Low,J x.Sheet.Paper.High,J x.Sheet.Paper.Columns,J x.Sheet.Paper.Along.Lo,J x.Sheet.Paper.Along.Hi,J x.Sheet.Paper.Across.Lo,J x.Sheet.Paper.Across.Hi,v95,v97,v99,v101,J x.Sheet.Pen.Band,J x.Sheet.Pen.Zero.Lo,J x.Sheet.Pen.Zero.Hi,J x.Sheet.Pen.Rate,S0,S0],blk b35 296 [.pointer none,J z33,J z34],blk fb 289 [.map (some f0),.map (some f1),.map (some f2),.map (some f3),.map (some f4),.map (some f5),.map (some f6),.map (some f7),vS,vR,vT,vC],mapE f2 NName O7,mapE f3 NName (InPool ps K),mapE f4 NName (E9 Mark),mapE f5 NName (E9 NName),mapE f6 NName (E9 ReadT),mapE f7 NName W6,row (vS) 76 24 (LS).length (xS),A5 (vR) 196 (LR),row (vT) 128 4 (LT).length (xT),A5 (vC) 73 (([]:List NName)),I5 73 2 ps] [(0,Pt fb 0),(3,Pt b13 0),(7,Pt b107 0)] _
 refine have hM0:=hM0.mono hle128;have hM1:=hM1.mono hle128;have hxS:=hxS.mono hle128;have hxT:=hxT.mono hle128;have hp16:=hp16.mono hle128;have hl133:=hs129.le;have hl134:=hs130.le;have hl135:=hs131.le;have hl136:=hs132.le;q' 2 r'<|G7 Mark 98<|G7 NName 73<|K7 (π:=sq [0,1,2,3,4,5,8,6,7] .done) [6] [] r' (by kernel_rfl)<|U' 2 r'<|Y' r' r' (A.f r')<|Y' r' r' (A.b 4 r' r' r')<|G' hp16 r' r' r' fun c137 hc138=>?_
 obtain⟨v139,v141,v143,v145,rfl,hs140,hs142,hs144,hs146⟩:=hc138
 refine have hl147:=hs140.le;have hl148:=hs142.le;have hl149:=hs144.le;have hl150:=hs146.le;Y' r' r' (X.call call154 rfl (H9 _ _ x ⟨_,_,_,_,rfl,hs140,hs142,hs144,hs146⟩))<|U' 1 r' ?_
 refine A0U rfl rfl rfl (T8 (k:=(G4 x)) runUnderlying283 F5 zeroValue56 rfl rfl (show B2 _ 6=_ from rfl) (.nil _ _)) (by decide) (fun u151 hV152=>?_)
 obtain⟨a153,l154,k155,rfl,hl156,hk157⟩:=hV152
 refine Y' r' r' (A7n runUnderlying56 rfl (q:=l154) rfl)<|V' 2 r' ?_
 refine lp (G:=Nat×Value×List Mark×Value×List NName) (fun(k,vM,Ms,vN,Ns)=>l154-k) (fun(k,vM,Ms,vN,Ns)=>m60) (fun(k,vM,Ms,vN,Ns)=>[A5 (vN) 73 (Ns),A5 (vM) 98 (Ms),blk b107 76 [J ((G4 x).Clerk),J ((G4 x).Num),J z33,J z34,J x.Sheet.Paper.Pitch,J x.Sheet.Paper.Height,J x.Sheet.Paper.Radius,J x.Sheet.Paper.Low,J x.Sheet.Paper.High,J x.Sheet.Paper.Columns,J x.Sheet.Paper.Along.Lo,J x.Sheet.Paper.Along.Hi,J x.Sheet.Paper.Across.Lo,J x.Sheet.Paper.Across.Hi,v95,v97,v99,v101,J x.Sheet.Pen.Band,J x.Sheet.Pen.Zero.Lo,J x.Sheet.Pen.Zero.Hi,J x.Sheet.Pen.Rate,vM,vN],blk b35 296 [.pointer none,J z33,J z34],blk fb 289 [.map (some f0),.map (some f1),.map (some f2),.map (some f3),.map (some f4),.map (some f5),.map (some f6),.map (some f7),vS,vR,vT,vC],mapE f2 NName O7,mapE f3 NName (InPool ps K),mapE f4 NName (E9 Mark),mapE f5 NName (E9 NName),mapE f6 NName (E9 ReadT),mapE f7 NName W6,row (vS) 76 24 (LS).length (xS),A5 (vR) 196 (LR),row (vT) 128 4 (LT).length (xT),A5 (vC) 73 (([]:List NName)),I5 73 2 ps]) (fun(k,vM,Ms,vN,Ns)=>[(0,Pt fb 0),(7,Pt b107 0),(50,.slice a153 l154 k155),(51,J l154),(52,J k)]) (fun(k,vM,Ms,vN,Ns)=>k≤l154∧Ms.length≤k∧Ns.length≤k) ((0,Value.slice none 0 0,[],(Value.slice none 0 0),[])) ?_ ?_
 ·exact⟨Nat.zero_le _,Nat.le_refl _,Nat.le_refl _⟩
 rintro⟨k,vM,Ms,vN,Ns⟩ hF158
 obtain⟨hk_,hMs,hNs⟩:=hF158
 refine q' 2 r'<|c' (X.lss r' r') (fun h159=>?_) fun h159=>?_
 ·refine v' 10 r' ?_
  obtain⟨g_,rfl,hg_,hlc_⟩:=hk157.resolve_left (fun h_=>by have h1_:=h_.2.1;omega)
  refine WL.y (C6e (g:=g_) k runUnderlying56 sizeOf73 rfl rfl rfl (by omega)) ?_
  refine C6Y (B6m (j:=15) (g:=g_) (c:=k155) (k:=k) isAgg73 sizeOf73 rfl rfl hg_ (by omega)) (by decide) (fun v160 hu_=>?_)
  obtain⟨z161,z162,rfl⟩:=hu_
  refine n' zeroValue73 r' fun b163=>w' 0 r' r' r'<|v' 3 r'<|B4 12 [7,8,9,11] [9,11]<|Y' r' r' (A.f r')<|Y' r' r' (A.b 3 r' r' r')<|U' 2 r'<|Y' r' r' (A.f r')<|Y' r' r' (A.b 5 r' r' r')<|Y' r' r' (K4 0 r' r' r') ?_
  refine A0U rfl rfl rfl (T8 (k:=((NName.mk (z161) (z162)))) runUnderlying284 F5 zeroValue98 rfl rfl (show B2 _ 8=_ from rfl) ⟨(Mark.mk 0 (Span.mk 0 0)),rfl⟩) (by decide) (fun u164 hV165=>?_)
  obtain⟨x166,rfl⟩:=hV165
  refine P4 rfl rfl rfl (E6 B3x rfl rfl rfl (by decide)) (by decide) fun b167=>?_
  refine V0 rfl rfl rfl rfl (E2 (k:=2) (a:=x166) B3x rfl rfl rfl rfl (by first|omega|(simp;done)|(simp;omega)) (by decide)) (by decide) (fun v168=>?_)
  refine Y' r' r' (A.f r')<|B3 r' r' r' r' (W8 (k:=2) rfl trivial (D0 rfl rfl rfl) fun ho169=>T.storeB (k:=3) sizeOf74 rfl rfl rfl ho169 (Nat.le_of_ble_eq_true rfl))<|V' 2 r'<|f' r' t'<|b' 3 r' r' r'<|a' 0 r' r'<|T6 (E6 A5j rfl rfl rfl (by decide)) (by decide) fun b170=>?_
  refine G2 (E2 (k:=1) (a:=(NName.mk (z161) (z162))) A5j rfl rfl rfl rfl (by first|omega|(simp;done)|(simp;omega)) (by decide)) (by decide) (fun v171=>?_)
  refine WL.y (X.field runUnderlying76 rfl sizeOf56 rfl) ?_
  refine F7 (k:=1) rfl (fun ho172=>?_)
  refine I2 (T.storeB (k:=3) sizeOf56 rfl rfl rfl ho172 (Nat.le_of_ble_eq_true rfl))<|v' 8 r' ?_
  refine nx ((k+1,v168,Ms++[x166],v171,Ns++[(NName.mk (z161) (z162))])) ?_ ?_
  ·exact⟨by omega,by simp only[List.length_append,List.length_cons,List.length_nil];omega,by simp only[List.length_append,List.length_cons,List.length_nil];omega⟩
  (dsimp only;omega)
 refine v' 9 r' ?_
 refine A8w 1 [A5 (vN) 73 (Ns),A5 (vM) 98 (Ms),blk b107 76 [J ((G4 x).Clerk),J ((G4 x).Num),J z33,J z34,J x.Sheet.Paper.Pitch,J x.Sheet.Paper.Height,J x.Sheet.Paper.Radius,J x.Sheet.Paper.Low,J x.Sheet.Paper.High,J x.Sheet.Paper.Columns,J x.Sheet.Paper.Along.Lo,J x.Sheet.Paper.Along.Hi,J x.Sheet.Paper.Across.Lo,J x.Sheet.Paper.Across.Hi,v95,v97,v99,v101,J x.Sheet.Pen.Band,J x.Sheet.Pen.Zero.Lo,J x.Sheet.Pen.Zero.Hi,J x.Sheet.Pen.Rate,vM,vN],blk b35 296 [.pointer none,J z33,J z34]] [blk fb 289 [.map (some f0),.map (some f1),.map (some f2),.map (some f3),.map (some f4),.map (some f5),.map (some f6),.map (some f7),vS,vR,vT,vC],mapE f2 NName O7,mapE f3 NName (InPool ps K),mapE f4 NName (E9 Mark),mapE f5 NName (E9 NName),mapE f6 NName (E9 ReadT),mapE f7 NName W6,row (vS) 76 24 (LS).length (xS),A5 (vR) 196 (LR),row (vT) 128 4 (LT).length (xT),A5 (vC) 73 (([]:List NName)),I5 73 2 ps] rfl rfl rfl (by unfold C8;omega) (fun m173 hle174 hs175=>?_)
 replace hM0:=hM0.mono hle174
 replace hM1:=hM1.mono hle174
 replace hxS:=hxS.mono hle174
 replace hxT:=hxT.mono hle174
 replace hs129:=hs129.mono hle174
 replace hs130:=hs130.mono hle174
 replace hs131:=hs131.mono hle174
 replace hs132:=hs132.mono hle174
 refine A8w 0 [A5 (vN) 73 (Ns),blk b107 76 [J ((G4 x).Clerk),J ((G4 x).Num),J z33,J z34,J x.Sheet.Paper.Pitch,J x.Sheet.Paper.Height,J x.Sheet.Paper.Radius,J x.Sheet.Paper.Low,J x.Sheet.Paper.High,J x.Sheet.Paper.Columns,J x.Sheet.Paper.Along.Lo,J x.Sheet.Paper.Along.Hi,J x.Sheet.Paper.Across.Lo,J x.Sheet.Paper.Across.Hi,v95,v97,v99,v101,J x.Sheet.Pen.Band,J x.Sheet.Pen.Zero.Lo,J x.Sheet.Pen.Zero.Hi,J x.Sheet.Pen.Rate,vM,vN],blk b35 296 [.pointer none,J z33,J z34]] [blk fb 289 [.map (some f0),.map (some f1),.map (some f2),.map (some f3),.map (some f4),.map (some f5),.map (some f6),.map (some f7),vS,vR,vT,vC],mapE f2 NName O7,mapE f3 NName (InPool ps K),mapE f4 NName (E9 Mark),mapE f5 NName (E9 NName),mapE f6 NName (E9 ReadT),mapE f7 NName W6,row (vS) 76 24 (LS).length (xS),A5 (vR) 196 (LR),row (vT) 128 4 (LT).length (xT),A5 (vC) 73 (([]:List NName)),I5 73 2 ps] rfl rfl rfl (by unfold C8;omega) (fun m176 hle177 hs178=>?_)
 refine have hM0:=hM0.mono hle177;have hM1:=hM1.mono hle177;have hxS:=hxS.mono hle177;have hxT:=hxT.mono hle177;have hs129:=hs129.mono hle177;have hs130:=hs130.mono hle177;have hs131:=hs131.mono hle177;have hs132:=hs132.mono hle177;have hs175:=hs175.mono hle177;B4 13 [7,8,12] [8,12]<|U' 3 r'<|Y' r' r' (A.f r')<|Y' r' r' (A.f r')<|Y' r' r' (A.b 2 r' r' r')<|Y' r' r' (K4 0 r' r' r')<|P4 r' r' r' (E6 B6B rfl rfl rfl (by decide)) (by decide) fun b179=>?_
 refine V0 rfl rfl rfl rfl (W4 (k:=9) (n':=(LS++[(FiledT.mk (G4 x) (z33) (z34) (x.Sheet) (Ms) (Ns))]).length) B6B rfl rfl rfl rfl rfl (A4 rfl (A4 rfl (A4 rfl (A4 rfl (A4 rfl (A4 rfl (A4 rfl (A4 rfl (A4 rfl (A4 rfl (A4 rfl (A4 rfl (A4 rfl (A4 rfl (A4 hs129.one (A4 hs130.one (A4 hs131.one (A4 hs132.one (A4 rfl (A4 rfl (A4 rfl (A4 rfl (A4 hs175.one (A4 hs178.one C0)))))))))))))))))))))))) (by simp) (by first|omega|(simp;omega)) (by first|omega|(simp;omega))) (by decide) (fun v180=>?_)
 refine have hx181:=X6 (a:=(FiledT.mk (G4 x) (z33) (z34) (x.Sheet) (Ms) (Ns))) hxS ⟨_,_,_,_,_,_,rfl,hs129,hs130,hs131,hs132,hs175,hs178⟩;U' 1 r'<|Y' r' r' (A.f r')<|Y' r' r' (A.f r')<|B3 r' r' r' r' (W8 (k:=9) rfl trivial (D0 rfl rfl rfl) fun ho182=>T.storeB (k:=2) sizeOf54 rfl rfl rfl ho182 (Nat.le_of_ble_eq_true rfl))<|V' 0 r' ?_
 refine D9 rfl (fun w' hw'=>B8 (hw'.weaken (.cons _ (.cons _ (.refl _)))) ?_)
 exact⟨rfl,⟨fb,f0,f1,f2,f3,f4,f5,f6,f7,v180,xS++[J ((G4 x).Clerk),J ((G4 x).Num),J z33,J z34,J x.Sheet.Paper.Pitch,J x.Sheet.Paper.Height,J x.Sheet.Paper.Radius,J x.Sheet.Paper.Low,J x.Sheet.Paper.High,J x.Sheet.Paper.Columns,J x.Sheet.Paper.Along.Lo,J x.Sheet.Paper.Along.Hi,J x.Sheet.Paper.Across.Lo,J x.Sheet.Paper.Across.Hi,v95,v97,v99,v101,J x.Sheet.Pen.Band,J x.Sheet.Pen.Zero.Lo,J x.Sheet.Pen.Zero.Hi,J x.Sheet.Pen.Rate,vM,vN],LS++[(FiledT.mk (G4 x) (z33) (z34) (x.Sheet) (Ms) (Ns))],vR,LR,vT,xT,LT,vC,ps,K⟩,rfl,rfl,⟨hM0,hM1,hx181,hxT,⟨(by first|omega|(simp only[List.length_append,List.length_cons,List.length_nil,List.length_set];omega)),(by first|omega|(simp only[List.length_append,List.length_cons,List.length_nil,List.length_set];omega)),(by first|omega|(simp only[List.length_append,List.length_cons,List.length_nil,List.length_set];omega)),(by first|omega|(simp only[List.length_append,List.length_cons,List.length_nil,List.length_set];omega)),hbd.2.2.2.2⟩,hts,(fun a ha=>by rcases List.mem_append.1 ha with h_|h_;exact hfi a h_;obtain rfl:=List.mem_singleton.1 h_;exact⟨hsb,(by(try dsimp only);omega),(by(try dsimp only);omega)⟩)⟩⟩
theorem A8m{G:Prop}(h:G:=by exact⟨rfl,⟨fb,f0,f1,f2,f3,f4,f5,f6,f7,vS,xS,LS,vR,LR,vT,xT,LT,vC,ps,K⟩,rfl,rfl,⟨hM0,hM1,hxS,hxT,⟨(by first|omega|(simp only[List.length_append,List.length_cons,List.length_nil,List.length_set];omega)),(by first|omega|(simp only[List.length_append,List.length_cons,List.length_nil,List.length_set];omega)),(by first|omega|(simp only[List.length_append,List.length_cons,List.length_nil,List.length_set];omega)),(by first|omega|(simp only[List.length_append,List.length_cons,List.length_nil,List.length_set];omega)),hbd.2.2.2.2⟩,hts,hfi⟩⟩):G:=h
theorem C0r(m:Mem)(cn:List Value)(x:NoteT)(hn_:Enc.rd m cn x){f0 f1 f2 f3 f4 f5 f6 f7:Nat}{vS vR vT vC:Value}{xS xT:List Value}{LS:List FiledT}{LR:List ReadT}{LT:List Station}{ps:List (Nat×Nat)}{K:Nat}(hM0:MapN m f0)(hM1:MapN m f1)(hxS:RdL m xS LS)(hxT:RdL m xT LT)(hbd:LS.length≤n∧LR.length≤n∧K≤n∧LT.length=N∧N≤1000)(hts:A3R LT)(hfi:∀a∈LS,fiB a)(hn:n≤5000)(hN:0<N):Mut prog 160 #[Pt fb 0,.agg cn.toArray] m [blk fb 289 [.map (some f0),.map (some f1),.map (some f2),.map (some f3),.map (some f4),.map (some f5),.map (some f6),.map (some f7),vS,vR,vT,vC],mapE f2 NName O7,mapE f3 NName (InPool ps K),mapE f4 NName (E9 Mark),mapE f5 NName (E9 NName),mapE f6 NName (E9 ReadT),mapE f7 NName W6,row (vS) 76 24 (LS).length (xS),A5 (vR) 196 (LR),row (vT) 128 4 (LT).length (xT),A5 (vC) 73 (([]:List NName)),I5 73 2 ps] (FoR fb (n+1) N):=by
 obtain⟨v1,v3,v5,v7,rfl,hs2,hs4,hs6,hs8⟩:=hn_
 refine have hl9:=hs2.le;have hl10:=hs4.le;have hl11:=hs6.le;have hl12:=hs8.le;G3 func160 r' ntmps160 fun wld=>q' 2 r'<|o' r' r' fun b13=>v' 3 r'<|fx (x:=x) 1 0 r' r' ⟨_,_,_,_,rfl,hs2,hs4,hs6,hs8⟩ fun m14 hle15 hp16=>have hM0:=hM0.mono hle15;have hM1:=hM1.mono hle15;have hxS:=hxS.mono hle15;have hxT:=hxT.mono hle15;B4 13 [] []<|U' 2 r'<|Y' r' r' (A.f r')<|Y' r' r' (A.f r')<|Y' r' r' (A.b 0 r' r' r')<|have hp17:=U0 hp16;Y' r' r' (A.f r')<|Y' r' r' (A.i r' hp17)<|Y' r' r' (A7V call42 rfl (fun w_ hw_=>A0Q _ _ _ (hw_.rowSl (k:=9) rfl hxT (show(LT).length≤C8 from by unfold C8;first|omega|exact Nat.zero_le _)) _))<|U' 5 r'<|V' 2 r' ?_
 have hrg_:=C3H (l:=LT) (id:=x.Station) (by omega)
 obtain⟨i_,hi_⟩:∃qq__:Nat,((U7 LT x.Station).1:Int)=(qq__:Int):=⟨((U7 LT x.Station).1:Int).toNat,(by omega)⟩
 rw[hi_]
 refine K7 (π:=sq [0,1,2,3,4,5,6,7,8,9] (.fork (sq [10,11,12,13,14,15,16] .done) (sq [14,10,11,12,13,15,16] .done))) [10,14,15] [15] r' (by kernel_rfl)<|U' 2 r'<|Y' r' r' (A.f r')<|Y' r' r' (A.f r')<|Y' r' r' (A.b 0 r' r' r')<|U' 1 r'<|Y' r' r' (B0 9 i_)<|G9 r' r' (B3R (k:=9) (i:=i_) isAgg128 sizeOf128 rfl rfl rfl hxT (by omega)) (by decide) fun c18 hc19=>?_
 obtain⟨v20,rfl,hs21⟩:=hc19
 refine have hl22:=hs21.le;have hp23:=A1Q hp16;Y' r' r' (A.f r')<|G' hp23 r' r' r' fun c24 hc25=>?_
 obtain rfl:=hc25
 refine DW.fork (List.cons_ne_nil _ _) ?_ ?_
 ·refine A1V rfl rfl rfl (T.call call235 rfl (B6b _ _ (gt LT i_) ⟨_,rfl,hs21⟩ _ x.Height rfl)) (by decide) fun m26 r27 hle28 hR29=>?_
  obtain⟨c30,x31,z33,rfl,hc32,hx34⟩:=hR29
  replace hM0:=hM0.mono hle28
  replace hM1:=hM1.mono hle28
  replace hxS:=hxS.mono hle28
  replace hxT:=hxT.mono hle28
  replace hp16:=hp16.mono hle28
  replace hs21:=hs21.mono hle28
  obtain⟨v35,rfl,hs36⟩:=hc32
  refine have hl37:=hs36.le;U' 3 r'<|Q9 r' r' r' (T.alloc zeroValue128 rfl) (by decide) fun b38=>W' 0 r' r' r' r' r'<|U' 1 r'<|V' 5 r'<|e' (X.neq r' r') (fun h39=>?_) fun h39=>?_
  ·refine v' 6 r'<|g' hp16 r' fun c40 hc41=>?_
   obtain⟨v42,v44,v46,v48,rfl,hs43,hs45,hs47,hs49⟩:=hc41
   have hl50:=hs43.le
   have hl51:=hs45.le
   have hl52:=hs47.le
   have hl53:=hs49.le
   refine C2 (I3 [1,6] call162 r' (Q5 _ _ x ⟨_,_,_,_,rfl,hs43,hs45,hs47,hs49⟩ hM0)) (by decide) (fun m54 Es_ u_ hle55 hR_=>?_)
   obtain⟨rfl,rfl⟩:=hR_
   refine have hM0:=hM0.mono hle55;have hM1:=hM1.mono hle55;have hxS:=hxS.mono hle55;have hxT:=hxT.mono hle55;have hp16:=hp16.mono hle55;have hs21:=hs21.mono hle55;have hs36:=hs36.mono hle55;v' 4 r'<|WK.p [2,0,1,1,1,1,1] ?_
   refine F1 rfl (fun w' hw'=>B8 (hw'.weaken (.cons _ (.refl _))) ?_)
   exact A8m
  refine v' 5 r'<|B4 9 [8] [8]<|U' 2 r'<|Y' r' r' (A.f r')<|Y' r' r' (A.f r')<|Y' r' r' (A.b 1 r' r' r')<|U' 1 r'<|Y' r' r' (K4 0 r' r' r')<|Y' r' r' (B0 10 i_) ?_
  refine B7L rfl rfl rfl rfl (B2f (k:=10) (i:=i_) (us:=[J x31.ID,J x31.X,J x31.Y,v35]) (a:=x31) sizeOf128 rfl rfl rfl rfl (Nat.zero_lt_succ _) rfl (by first|omega|(simp;omega)|simp) hxT ⟨_,rfl,hs36⟩ (A4 rfl (A4 rfl (A4 rfl (A4 hs36.one C0))))) (fun ys56 hx57=>?_)
  refine V' 0 r' ?_
  refine D9 rfl (fun w' hw'=>B8 (hw'.weaken (.cons _ (.refl _))) ?_)
  exact⟨rfl,⟨fb,f0,f1,f2,f3,f4,f5,f6,f7,vS,xS,LS,vR,LR,vT,ys56,LT.set i_ x31,vC,ps,K⟩,rfl,rfl,⟨hM0,hM1,hxS,hx57,⟨(by first|omega|(simp only[List.length_append,List.length_cons,List.length_nil,List.length_set];omega)),(by first|omega|(simp only[List.length_append,List.length_cons,List.length_nil,List.length_set];omega)),(by first|omega|(simp only[List.length_append,List.length_cons,List.length_nil,List.length_set];omega)),(by first|omega|(simp only[List.length_append,List.length_cons,List.length_nil,List.length_set];omega)),hbd.2.2.2.2⟩,(B3X hts hx34),hfi⟩⟩
 refine Q9 r' r' r' (T.alloc zeroValue128 rfl) (by decide) fun b58=>A1V r' r' r' (T.call call235 rfl (B6b _ _ (gt LT i_) ⟨_,rfl,hs21⟩ _ x.Height rfl)) (by decide) fun m59 r60 hle61 hR62=>?_
 obtain⟨c63,x64,z66,rfl,hc65,hx67⟩:=hR62
 replace hM0:=hM0.mono hle61
 replace hM1:=hM1.mono hle61
 replace hxS:=hxS.mono hle61
 replace hxT:=hxT.mono hle61
 replace hp16:=hp16.mono hle61
 obtain⟨v68,rfl,hs69⟩:=hc65
 refine have hl70:=hs69.le;U' 3 r'<|W' 0 r' r' r' r' r'<|U' 1 r'<|V' 5 r'<|e' (X.neq r' r') (fun h71=>?_) fun h71=>?_
 ·refine v' 6 r'<|g' hp16 r' fun c72 hc73=>?_
  obtain⟨v74,v76,v78,v80,rfl,hs75,hs77,hs79,hs81⟩:=hc73
  have hl82:=hs75.le
  have hl83:=hs77.le
  have hl84:=hs79.le
  have hl85:=hs81.le
  refine C2 (I3 [1,6] call162 r' (Q5 _ _ x ⟨_,_,_,_,rfl,hs75,hs77,hs79,hs81⟩ hM0)) (by decide) (fun m86 Es_ u_ hle87 hR_=>?_)
  obtain⟨rfl,rfl⟩:=hR_
  refine have hM0:=hM0.mono hle87;have hM1:=hM1.mono hle87;have hxS:=hxS.mono hle87;have hxT:=hxT.mono hle87;have hs69:=hs69.mono hle87;v' 4 r'<|WK.p [2,0,1,1,1,1,1] ?_
  refine F1 rfl (fun w' hw'=>B8 (hw'.weaken (.cons _ (.refl _))) ?_)
  exact A8m
 refine v' 5 r'<|B4 9 [8] [8]<|U' 2 r'<|Y' r' r' (A.f r')<|Y' r' r' (A.f r')<|Y' r' r' (A.b 1 r' r' r')<|U' 1 r'<|Y' r' r' (K4 0 r' r' r')<|Y' r' r' (B0 10 i_) ?_
 refine B7L rfl rfl rfl rfl (B2f (k:=10) (i:=i_) (us:=[J x64.ID,J x64.X,J x64.Y,v68]) (a:=x64) sizeOf128 rfl rfl rfl rfl (Nat.zero_lt_succ _) rfl (by first|omega|(simp;omega)|simp) hxT ⟨_,rfl,hs69⟩ (A4 rfl (A4 rfl (A4 rfl (A4 hs69.one C0))))) (fun ys88 hx89=>?_)
 refine V' 0 r' ?_
 refine D9 rfl (fun w' hw'=>B8 (hw'.weaken (.cons _ (.refl _))) ?_)
 exact⟨rfl,⟨fb,f0,f1,f2,f3,f4,f5,f6,f7,vS,xS,LS,vR,LR,vT,ys88,LT.set i_ x64,vC,ps,K⟩,rfl,rfl,⟨hM0,hM1,hxS,hx89,⟨(by first|omega|(simp only[List.length_append,List.length_cons,List.length_nil,List.length_set];omega)),(by first|omega|(simp only[List.length_append,List.length_cons,List.length_nil,List.length_set];omega)),(by first|omega|(simp only[List.length_append,List.length_cons,List.length_nil,List.length_set];omega)),(by first|omega|(simp only[List.length_append,List.length_cons,List.length_nil,List.length_set];omega)),hbd.2.2.2.2⟩,(B3X hts hx67),hfi⟩⟩
theorem C7j:A9b (.func (.func 156) #[Pt fb 0] #[]) fb N (fun x=>True):=
 ⟨156,_,_,rfl,call156,fun m g n c x hn hx hq hp hb=>by
  obtain⟨_,f0,f1,f2,f3,f4,f5,f6,f7,vS,xS,LS,vR,LR,vT,xT,LT,vC,ps,K⟩:=g
  obtain⟨h1,h2,h3,h4,h5,h6,h7⟩:=hp
  obtain rfl:=hb
  exact C3x m c x hx h1 h2 h3 h4 h5 h6 h7 hn⟩
theorem C7C:A9b (.func (.func 157) #[Pt fb 0] #[]) fb N (fun x=>True):=
 ⟨157,_,_,rfl,call157,fun m g n c x hn hx hq hp hb=>by
  obtain⟨_,f0,f1,f2,f3,f4,f5,f6,f7,vS,xS,LS,vR,LR,vT,xT,LT,vC,ps,K⟩:=g
  obtain⟨h1,h2,h3,h4,h5,h6,h7⟩:=hp
  obtain rfl:=hb
  exact C4w m c x hx h1 h2 h3 h4 h5 h6 h7 hn⟩
theorem C7Y:A9b (.func (.func 158) #[Pt fb 0] #[]) fb N (fun x=>True):=
 ⟨158,_,_,rfl,call158,fun m g n c x hn hx hq hp hb=>by
  obtain⟨_,f0,f1,f2,f3,f4,f5,f6,f7,vS,xS,LS,vR,LR,vT,xT,LT,vC,ps,K⟩:=g
  obtain⟨h1,h2,h3,h4,h5,h6,h7⟩:=hp
  obtain rfl:=hb
  exact B6j m c x hx h1 h2 h3 h4 h5 h6 h7 hn⟩
theorem C7B:A9b (.func (.func 159) #[Pt fb 0] #[]) fb N (fun x=>shB x.Sheet):=
 ⟨159,_,_,rfl,call159,fun m g n c x hn hx hq hp hb=>by
  obtain⟨_,f0,f1,f2,f3,f4,f5,f6,f7,vS,xS,LS,vR,LR,vT,xT,LT,vC,ps,K⟩:=g
  obtain⟨h1,h2,h3,h4,h5,h6,h7⟩:=hp
  obtain rfl:=hb
  exact C0N m c x hx h1 h2 h3 h4 h5 h6 h7 hn hq⟩
theorem C7V:A9b (.func (.func 160) #[Pt fb 0] #[]) fb N (fun x=>0<N):=
 ⟨160,_,_,rfl,call160,fun m g n c x hn hx hq hp hb=>by
  obtain⟨_,f0,f1,f2,f3,f4,f5,f6,f7,vS,xS,LS,vR,LR,vT,xT,LT,vC,ps,K⟩:=g
  obtain⟨h1,h2,h3,h4,h5,h6,h7⟩:=hp
  obtain rfl:=hb
  exact C0r m c x hx h1 h2 h3 h4 h5 h6 h7 hn hq⟩
theorem C6Z:A9b (.func (.func 161) #[] #[Pt fb 0]) fb N (fun x=>True):=
 ⟨161,_,_,rfl,call161,fun m g n c x hn hx hq hp hb=>by
  obtain⟨_,f0,f1,f2,f3,f4,f5,f6,f7,vS,xS,LS,vR,LR,vT,xT,LT,vC,ps,K⟩:=g
  obtain⟨h1,h2,h3,h4,h5,h6,h7⟩:=hp
  obtain rfl:=hb
  exact C0h m c x hx h1 h2 h3 h4 h5 h6 h7 hn⟩
theorem A4t(m:Mem){dv:Value}{Q:NoteT→Prop}(hd:A9b dv fb N Q){pl:Addr}{l:List NoteT}(hpl:At m pl l){vk:Value}{kinds:List Int}(hk:Sl m vk kinds)(hn:l.length≤400){g:Fo}(hp:foP m g n N)(hb:g.b=fb)(hnn:n+400≤5000)
 (hQ:∀a,a∈l→(kinds.length=0∨∃i,i<kinds.length∧gt kinds i=a.Kind)→Q a):Mut prog 155 #[dv,vk,.pointer (some pl)] m (foE g) (FoR fb (n+l.length) N):=by
 obtain⟨fn,bd,cap,rfl,hE,hdo⟩:=hd
 refine G3 func155 r' ntmps155 fun wld=>q' 2 r'<|o' r' r' fun b1=>v' 4 r'<|s' hpl r' fun v2 hs3=>have hl4:=hs3.le;v' 1 r' ?_
 refine D1 (T.call call153 rfl (A8u _ hs3 hk (by omega))) (by decide) (fun m5 _ hle6 hR_=>?_)
 obtain⟨lb7,ny8,rfl,hny9,hit10⟩:=hR_
 refine have hp:=hp.mono hle6;v' 3 r' ?_
 refine A6N (S:=Fo) (G:=Nat) (ps:=[9]) (n:=ny8) (A:=B2y (fun a=>a∈l) kinds) rfl call231 hit10 (fun g_:Fo=>[blk b1 297 [.func (.func fn) bd cap]]++foE g_) (fun i m_ g_=>g_.b=fb∧foP m_ g_ (n+i) N) (fun _ _ _ _=>False) g rfl ⟨hb,hp⟩ (fun _ _ _ _ hm_ h_=>⟨h_.1,h_.2.mono hm_⟩) (by simp) (fun m1 args h=>by obtain⟨c,x,rfl,_⟩:=h;rfl) (fun b_ args gh=>blk b_ 200 ((args.getD 0 undef).cells.toList)::(fun g_:Fo=>[blk b1 297 [.func (.func fn) bd cap]]++foE g_) gh) (fun b_ args=>(5,Pt b_ 0)::[(0,.func (.func fn) bd cap),(1,vk),(2,.pointer (some (pl))),(3,Pt b1 0),(6,v2),(7,vk),(8,.func (.func 231) #[] lb7.toArray)]) ?_ ?_ ?_ ?_ ?_
 ·intro lo B1 m1_0 gh args KK hlen hA1 hm1_0 hKK
  obtain⟨c_,x_,hA2,hn_,hxl_,hkk_⟩:=hA1
  have hA3:args=[.agg c_.toArray]:=(by have:=congrArg Array.toList hA2;simpa using this)
  subst hA3
  obtain⟨v11,v13,v15,v17,rfl,hs12,hs14,hs16,hs18⟩:=hn_
  have hl19:=hs12.le
  have hl20:=hs14.le
  have hl21:=hs16.le
  have hl22:=hs18.le
  refine qb ?_
  exact q' 1 r'<|n' zeroValue200 r' fun b23=>w' 0 r' r' r'<|v' 1 r'<|R0 (.cons rfl (.cons rfl (.cons rfl (.cons rfl (.cons rfl (.cons rfl (.cons rfl (.cons rfl .nil)))))))) (hKK b23)
 ·intro lo B1 i m1_0 gh args b_ hlen hi hm1_0 hA1 hI1
  obtain⟨hgb_,hgp_⟩:=hI1
  obtain⟨c_,x_,hA2,hn_,hxl_,hkk_⟩:=hA1
  have hA3:args=[.agg c_.toArray]:=(by have:=congrArg Array.toList hA2;simpa using this)
  subst hA3
  obtain⟨v24,v26,v28,v30,rfl,hs25,hs27,hs29,hs31⟩:=hn_
  have hl32:=hs25.le
  have hl33:=hs27.le
  have hl34:=hs29.le
  have hl35:=hs31.le
  show WK _ _ m1_0 ([blk b_ 200 [J x_.Clerk,J x_.Num,J x_.Clock,J x_.Day,J x_.Kind,J x_.Station,J x_.Week,J x_.Sheet.Paper.Pitch,J x_.Sheet.Paper.Height,J x_.Sheet.Paper.Radius,J x_.Sheet.Paper.Low,J x_.Sheet.Paper.High,J x_.Sheet.Paper.Columns,J x_.Sheet.Paper.Along.Lo,J x_.Sheet.Paper.Along.Hi,J x_.Sheet.Paper.Across.Lo,J x_.Sheet.Paper.Across.Hi,v24,v26,v28,v30,J x_.Sheet.Pen.Band,J x_.Sheet.Pen.Zero.Lo,J x_.Sheet.Pen.Zero.Hi,J x_.Sheet.Pen.Rate,J x_.Mark.Column,J x_.Mark.Ticks.Lo,J x_.Mark.Ticks.Hi,J x_.Read.Station,J x_.Read.Week,J x_.Read.Tick,J x_.Read.Levels.Lo,J x_.Read.Levels.Hi,J x_.Height.Week,J x_.Height.Metres.Lo,J x_.Height.Metres.Hi,J x_.Ref.Clerk,J x_.Ref.Num],blk b1 297 [.func (.func fn) bd cap]]++foE gh) [(5,Pt b_ 0),(0,.func (.func fn) bd cap),(1,vk),(2,.pointer (some (pl))),(3,Pt b1 0),(6,v2),(7,vk),(8,.func (.func 231) #[] lb7.toArray)] _
  refine qb ?_
  refine q' 2 r'<|b' 1 r' r' r'<|a' 0 r' r' ?_
  refine A6v (A2c (A:=[blk b_ 200 [J x_.Clerk,J x_.Num,J x_.Clock,J x_.Day,J x_.Kind,J x_.Station,J x_.Week,J x_.Sheet.Paper.Pitch,J x_.Sheet.Paper.Height,J x_.Sheet.Paper.Radius,J x_.Sheet.Paper.Low,J x_.Sheet.Paper.High,J x_.Sheet.Paper.Columns,J x_.Sheet.Paper.Along.Lo,J x_.Sheet.Paper.Along.Hi,J x_.Sheet.Paper.Across.Lo,J x_.Sheet.Paper.Across.Hi,v24,v26,v28,v30,J x_.Sheet.Pen.Band,J x_.Sheet.Pen.Zero.Lo,J x_.Sheet.Pen.Zero.Hi,J x_.Sheet.Pen.Rate,J x_.Mark.Column,J x_.Mark.Ticks.Lo,J x_.Mark.Ticks.Hi,J x_.Read.Station,J x_.Read.Week,J x_.Read.Tick,J x_.Read.Levels.Lo,J x_.Read.Levels.Hi,J x_.Height.Week,J x_.Height.Metres.Lo,J x_.Height.Metres.Hi,J x_.Ref.Clerk,J x_.Ref.Num],blk b1 297 [.func (.func fn) bd cap]]) hE rfl rfl rfl (hdo _ gh (n+i) _ x_ (by omega) ⟨_,_,_,_,rfl,hs25,hs27,hs29,hs31⟩ (hQ _ hxl_ hkk_) hgp_ hgb_)) (by decide) (fun m36 Es37 _ hle38 hR_=>?_)
  obtain⟨rfl,g39,rfl,hb40,hp41⟩:=hR_
  exact v' 2 r'<|A1o g39 hle38 (.cons _ (.refl _)) ⟨hb40,hp41⟩
 ·intro i m1_0 gh hm1_0 hi hI1
  obtain⟨hgb_,hgp_⟩:=hI1
  refine R0 (σ':=[(0,.func (.func fn) bd cap),(1,vk),(2,.pointer (some (pl))),(3,Pt b1 0),(6,v2),(7,vk),(8,.func (.func 231) #[] lb7.toArray)]) (.cons rfl (.cons rfl (.cons rfl (.cons rfl (.cons rfl (.cons rfl (.cons rfl .nil))))))) ?_
  show WK _ _ m1_0 ([blk b1 297 [.func (.func fn) bd cap]]++foE gh) [(0,.func (.func fn) bd cap),(1,vk),(2,.pointer (some (pl))),(3,Pt b1 0),(6,v2),(7,vk),(8,.func (.func 231) #[] lb7.toArray)] _
  refine A0v ?_
  refine D9 rfl (fun w' hw'=>B8 (hw'.weaken (.cons _ (.refl _))) ?_)
  exact⟨rfl,gh,rfl,hgb_,hgp_.up (by omega)⟩
 ·intro i m1 gh hm1 hi hI1
  exact hI1.elim
 intro id i m1 gh hm1 hi hI1
 exact hI1.elim
end Go.Proofs.S10
