import Derived.Test.YtooomcigmleneaaGreatKxW
import Derived.Test.YtooomcigmleneaaGreatKyP
import Derived.Test.YtooomcigmleneaaGreatT10Ty
import Derived.Test.YtooomcigmleneaaGreatKxU
import Derived.Test.YtooomcigmleneaaGreatT10W38
set_option linter.all false
set_option maxHeartbeats 16000000
namespace Go.Proofs.S10
open Tryz
set_option maxRecDepth 20000
open Go Go.Kx Go.Proofs.T10
theorem B9E(fs:Array Field)(h:prog.underlying 289=some (.struct fs))(w:World):(fs.mapM fun f=>do pure (f.offset,←sizeOf f.type):Sem _).run prog w= .ok #[(0,1),(1,1),(2,1),(3,1),(4,1),(5,1),(6,1),(7,1),(8,4)] w:=by
 rw[underlying289]at h;cases h;simp[sizeOf58,sizeOf280,sizeOf282,sizeOf283,sizeOf284,sizeOf285,sizeOf286,sizeOf287]
def rgB(x:RegT):Prop:=(x.Sheets.length≤5000∧x.Reads.length≤5000∧x.Stations.length≤1000)∧A3R x.Stations∧∀a∈x.Sheets,fiB a
theorem C5b{b:BaseT}(h:baE b=0):b.Stations.length≤32∧A3R b.Stations:=by
 have h1:baP b:=by
  unfold baE at h
  split at h
  ·assumption
  ·omega
 have h2:=h1.1.1
 exact⟨(A0c h2).1,fun i hi=>by have h6:=(R6 h2 hi).2.1;omega⟩
theorem C1a{k:Int}{a:NoteT}(h:([k]:List Int).length=0∨∃i,i<([k]:List Int).length∧gt [k] i=a.Kind):a.Kind=k:=by
 rcases h with h|⟨i,h1,h2⟩
 ·simp at h
 ·have:i=0:=by simp at h1;omega
  subst this;exact h2.symm
theorem A4T{G:Prop}(h:G:=by exact⟨by omega,(by first|omega|(simp only[List.length_append,List.length_cons,List.length_nil,List.length_set];omega))⟩):G:=h
theorem C5s(m:Mem)(cb:List Value)(b:BaseT)(hb:Enc.rd m cb b){v:Value}{l:List NoteT}(hl:Sl m v l)(hz:baE b=0)(hn:l.length≤400)(hk4m_:∀a,a∈l→a.Kind=4→0<b.Stations.length)(hsbm_:∀a,a∈l→shB a.Sheet):Pure prog 81 #[.agg cb.toArray,v] m (fun m' v=>∃r,∃x:RegT,v= .agg r.toArray∧Enc.rd m' r x∧rgB x):=by
 obtain⟨v1,rfl,hs2⟩:=hb
 have hl3:=hs2.le
 obtain⟨hst_,hht_⟩:=C5b hz
 unfold A3R at hht_
 refine H7 func81 r' ntmps81 fun wld=>q' 2 r'<|o' r' r' fun b4=>A1U (A4M (cs:=[v]) rfl (F4 hl.one)) (by decide) fun b5=>n' zeroValue58 r' fun b6=>v' 3 r'<|fz (x:=b) 2 r' r' ⟨_,rfl,hs2⟩ fun m7 hle8 hp9=>have hl:=hl.mono hle8;fz (x:=l) 1 r' r' ⟨_,rfl,hl⟩ fun m10 hle11 hp12=>have hp9:=hp9.mono hle11;q' 1 r'<|s' hp12 r' fun v13 hs14=>?_
 have hl15:=hs14.le
 refine D1 (T.call call152 rfl (B9v _ hs14)) (by decide) (fun m16 _ hle17 hR_=>?_)
 obtain⟨b18,rfl,hM19⟩:=hR_
 replace hp9:=hp9.mono hle17
 replace hp12:=hp12.mono hle17
 replace hM19:MapN m16 b18:=hM19
 refine O4 (W0 NName (NoteV m16)) (by decide) (fun u_ m_ H_ hz_=>?_)
 obtain⟨hm_,b20,rfl,rfl⟩:=hz_
 replace hm_:=hm_.symm
 subst hm_
 refine O4 (W0 NName O7) (by decide) (fun u_ m_ H_ hz_=>?_)
 obtain⟨hm_,b21,rfl,rfl⟩:=hz_
 replace hm_:=hm_.symm
 subst hm_
 refine O4 (W0 NName (InPool (([]:List (Nat×Nat))) 0)) (by decide) (fun u_ m_ H_ hz_=>?_)
 obtain⟨hm_,b22,rfl,rfl⟩:=hz_
 replace hm_:=hm_.symm
 subst hm_
 refine O4 (W0 NName (E9 Mark)) (by decide) (fun u_ m_ H_ hz_=>?_)
 obtain⟨hm_,b23,rfl,rfl⟩:=hz_
 replace hm_:=hm_.symm
 subst hm_
 refine O4 (W0 NName (E9 NName)) (by decide) (fun u_ m_ H_ hz_=>?_)
 obtain⟨hm_,b24,rfl,rfl⟩:=hz_
 replace hm_:=hm_.symm
 subst hm_
 refine O4 (W0 NName (E9 ReadT)) (by decide) (fun u_ m_ H_ hz_=>?_)
 obtain⟨hm_,b25,rfl,rfl⟩:=hz_
 replace hm_:=hm_.symm
 subst hm_
 refine O4 (W0 NName W6) (by decide) (fun u_ m_ H_ hz_=>?_)
 obtain⟨hm_,b26,rfl,rfl⟩:=hz_
 replace hm_:=hm_.symm
 subst hm_
 refine WL.y (V:=Value.agg [.map (some b18),.map (some b20),.map (some b21),.map (some b22),.map (some b23),.map (some b24),.map (some b25),.map (some b26),S0,S0,S0,S0].toArray) (X.build zeroValue289 runUnderlying289 (B9E _ underlying289) rfl (by kernel_rfl)) ?_
 refine n' zeroValue289 r' fun b27=>w' 0 r' r' r'<|v' 3 r'<|G7 NName 73<|q' 1 r'<|have hp28:=N3 hp9;f' r' t'<|s' hp28 r' fun v29 hs30=>?_
 have hl31:=hs30.le
 refine C2 (J5 call84 rfl (B3W _ hs30 (by omega) (by assumption))) (by decide) (fun m32 Es33 v34 hle35 hR_=>?_)
 obtain⟨ys36,rfl,hx37,ho38⟩:=hR_
 refine have hp12:=hp12.mono hle35;have hM19:=hM19.mono hle35;f' r' t'<|f' r' t'<|I2 (T.storeB (k:=2) sizeOf47 rfl rfl rfl ho38 (Nat.le_of_ble_eq_true rfl))<|v' 5 r'<|s' hp12 r' fun v39 hs40=>?_
 have hl41:=hs40.le
 refine D1 (L5 (α:=Int) (vals:=[J 1,J 3]) (L:=[1,3]) L6 rfl (.cons rfl rfl (.cons rfl rfl .nil)) rfl rfl) (by decide) (fun m42 v43 hle44 hs45=>?_)
 replace hp12:=hp12.mono hle44
 replace hM19:=hM19.mono hle44
 replace hx37:=hx37.mono hle44
 replace hs40:=hs40.mono hle44
 refine D1 (T.call call153 rfl (A8u _ hs40 hs45 (by omega))) (by decide) (fun m46 _ hle47 hR_=>?_)
 obtain⟨lb48,ny49,rfl,hny50,hit51⟩:=hR_
 refine have hp12:=hp12.mono hle47;have hM19:=hM19.mono hle47;have hx37:=hx37.mono hle47;v' 3 r' ?_
 refine A6N (S:=Mem) (G:=Nat) (ps:=[28]) (n:=ny49) (A:=B2y (fun a=>a∈l) ([1,3])) rfl call231 hit51 (fun mm_:Mem=>[row (v34) 128 4 (b.Stations).length (ys36),A5 (S0) 73 (([]:List NName)),blk b27 289 [.map (some b18),.map (some b20),.map (some b21),.map (some b22),.map (some b23),.map (some b24),.map (some b25),.map (some b26),S0,S0,v34,S0],mapE b26 NName W6,mapE b25 NName (E9 ReadT),mapE b24 NName (E9 NName),mapE b23 NName (E9 Mark),mapE b22 NName (InPool (([]:List (Nat×Nat))) 0),mapE b21 NName O7,mapE b20 NName (NoteV mm_),blk b6 58 [S0,S0,S0,S0]]) (fun _ m_ mm_=>mm_.le m_) (fun _ _ _ _=>False) m16 rfl (Mem.le_trans hle35 (Mem.le_trans hle44 hle47)) (fun _ _ _ _ hm_ h_=>Mem.le_trans h_ hm_) (by simp) (fun m1 args h=>by obtain⟨c,x,rfl,_⟩:=h;rfl) (fun b_ args gh=>blk b_ 200 ((args.getD 0 undef).cells.toList)::(fun mm_:Mem=>[row (v34) 128 4 (b.Stations).length (ys36),A5 (S0) 73 (([]:List NName)),blk b27 289 [.map (some b18),.map (some b20),.map (some b21),.map (some b22),.map (some b23),.map (some b24),.map (some b25),.map (some b26),S0,S0,v34,S0],mapE b26 NName W6,mapE b25 NName (E9 ReadT),mapE b24 NName (E9 NName),mapE b23 NName (E9 Mark),mapE b22 NName (InPool (([]:List (Nat×Nat))) 0),mapE b21 NName O7,mapE b20 NName (NoteV mm_),blk b6 58 [S0,S0,S0,S0]]) gh) (fun b_ args=>(6,Pt b_ 0)::[(0,.agg [v1,J b.Wind.Fixed,J b.Wind.Each,J b.Term,J b.Ticks,J b.Clerks].toArray),(1,v),(2,Pt b4 0),(3,Pt b5 0),(4,Pt b6 0),(10,v13),(11,.map (some b18)),(12,.map (some b20)),(13,.map (some b21)),(14,.map (some b22)),(15,.map (some b23)),(16,.map (some b24)),(17,.map (some b25)),(18,.map (some b26)),(19,.agg [.map (some b18),.map (some b20),.map (some b21),.map (some b22),.map (some b23),.map (some b24),.map (some b25),.map (some b26),S0,S0,S0,S0].toArray),(5,Pt b27 0),(20,.pointer (some (((⟨b4,0,none⟩:Addr)).add 0))),(21,v29),(22,v34),(23,Pt b27 8),(24,Pt b27 10),(25,v39),(26,v43),(27,.func (.func 231) #[] lb48.toArray)]) ?_ ?_ ?_ ?_ ?_
 ·intro lo B1 m1_1 gh args KK hlen hA1 hm1_1 hKK
  obtain⟨c_,x_,hA2,hn_,hxl_,hkk_⟩:=hA1
  have hA3:args=[.agg c_.toArray]:=(by have:=congrArg Array.toList hA2;simpa using this)
  subst hA3
  obtain⟨v52,v54,v56,v58,rfl,hs53,hs55,hs57,hs59⟩:=hn_
  have hl60:=hs53.le
  have hl61:=hs55.le
  have hl62:=hs57.le
  have hl63:=hs59.le
  refine qb ?_
  exact q' 1 r'<|n' zeroValue200 r' fun b64=>w' 0 r' r' r'<|v' 1 r'<|R0 (.cons rfl (.cons rfl (.cons rfl (.cons rfl (.cons rfl (.cons rfl (.cons rfl (.cons rfl (.cons rfl (.cons rfl (.cons rfl (.cons rfl (.cons rfl (.cons rfl (.cons rfl (.cons rfl (.cons rfl (.cons rfl (.cons rfl (.cons rfl (.cons rfl (.cons rfl (.cons rfl (.cons rfl (.cons rfl .nil))))))))))))))))))))))))) (hKK b64)
 ·intro lo B1 i m1_1 gh args b_ hlen hi hm1_1 hA1 hI1
  replace hp12:=hp12.mono hm1_1
  replace hM19:=hM19.mono hm1_1
  replace hx37:=hx37.mono hm1_1
  obtain⟨c_,x_,hA2,hn_,hxl_,hkk_⟩:=hA1
  have hA3:args=[.agg c_.toArray]:=(by have:=congrArg Array.toList hA2;simpa using this)
  subst hA3
  obtain⟨v65,v67,v69,v71,rfl,hs66,hs68,hs70,hs72⟩:=hn_
  have hl73:=hs66.le
  have hl74:=hs68.le
  have hl75:=hs70.le
  have hl76:=hs72.le
  show WK _ _ m1_1 [blk b_ 200 [J x_.Clerk,J x_.Num,J x_.Clock,J x_.Day,J x_.Kind,J x_.Station,J x_.Week,J x_.Sheet.Paper.Pitch,J x_.Sheet.Paper.Height,J x_.Sheet.Paper.Radius,J x_.Sheet.Paper.Low,J x_.Sheet.Paper.High,J x_.Sheet.Paper.Columns,J x_.Sheet.Paper.Along.Lo,J x_.Sheet.Paper.Along.Hi,J x_.Sheet.Paper.Across.Lo,J x_.Sheet.Paper.Across.Hi,v65,v67,v69,v71,J x_.Sheet.Pen.Band,J x_.Sheet.Pen.Zero.Lo,J x_.Sheet.Pen.Zero.Hi,J x_.Sheet.Pen.Rate,J x_.Mark.Column,J x_.Mark.Ticks.Lo,J x_.Mark.Ticks.Hi,J x_.Read.Station,J x_.Read.Week,J x_.Read.Tick,J x_.Read.Levels.Lo,J x_.Read.Levels.Hi,J x_.Height.Week,J x_.Height.Metres.Lo,J x_.Height.Metres.Hi,J x_.Ref.Clerk,J x_.Ref.Num],row (v34) 128 4 (b.Stations).length (ys36),A5 (S0) 73 (([]:List NName)),blk b27 289 [.map (some b18),.map (some b20),.map (some b21),.map (some b22),.map (some b23),.map (some b24),.map (some b25),.map (some b26),S0,S0,v34,S0],mapE b26 NName W6,mapE b25 NName (E9 ReadT),mapE b24 NName (E9 NName),mapE b23 NName (E9 Mark),mapE b22 NName (InPool (([]:List (Nat×Nat))) 0),mapE b21 NName O7,mapE b20 NName (NoteV gh),blk b6 58 [S0,S0,S0,S0]] [(6,Pt b_ 0),(0,.agg [v1,J b.Wind.Fixed,J b.Wind.Each,J b.Term,J b.Ticks,J b.Clerks].toArray),(1,v),(2,Pt b4 0),(3,Pt b5 0),(4,Pt b6 0),(10,v13),(11,.map (some b18)),(12,.map (some b20)),(13,.map (some b21)),(14,.map (some b22)),(15,.map (some b23)),(16,.map (some b24)),(17,.map (some b25)),(18,.map (some b26)),(19,.agg [.map (some b18),.map (some b20),.map (some b21),.map (some b22),.map (some b23),.map (some b24),.map (some b25),.map (some b26),S0,S0,S0,S0].toArray),(5,Pt b27 0),(20,.pointer (some (((⟨b4,0,none⟩:Addr)).add 0))),(21,v29),(22,v34),(23,Pt b27 8),(24,Pt b27 10),(25,v39),(26,v43),(27,.func (.func 231) #[] lb48.toArray)] _
  refine WK.wk (H':=[blk b_ 200 [J x_.Clerk,J x_.Num,J x_.Clock,J x_.Day,J x_.Kind,J x_.Station,J x_.Week,J x_.Sheet.Paper.Pitch,J x_.Sheet.Paper.Height,J x_.Sheet.Paper.Radius,J x_.Sheet.Paper.Low,J x_.Sheet.Paper.High,J x_.Sheet.Paper.Columns,J x_.Sheet.Paper.Along.Lo,J x_.Sheet.Paper.Along.Hi,J x_.Sheet.Paper.Across.Lo,J x_.Sheet.Paper.Across.Hi,v65,v67,v69,v71,J x_.Sheet.Pen.Band,J x_.Sheet.Pen.Zero.Lo,J x_.Sheet.Pen.Zero.Hi,J x_.Sheet.Pen.Rate,J x_.Mark.Column,J x_.Mark.Ticks.Lo,J x_.Mark.Ticks.Hi,J x_.Read.Station,J x_.Read.Week,J x_.Read.Tick,J x_.Read.Levels.Lo,J x_.Read.Levels.Hi,J x_.Height.Week,J x_.Height.Metres.Lo,J x_.Height.Metres.Hi,J x_.Ref.Clerk,J x_.Ref.Num],row (v34) 128 4 (b.Stations).length (ys36),A5 (S0) 73 (([]:List NName)),blk b27 289 [.map (some b18),.map (some b20),.map (some b21),.map (some b22),.map (some b23),.map (some b24),.map (some b25),.map (some b26),S0,S0,v34,S0],mapE b26 NName W6,mapE b25 NName (E9 ReadT),mapE b24 NName (E9 NName),mapE b23 NName (E9 Mark),mapE b22 NName (InPool (([]:List (Nat×Nat))) 0),mapE b21 NName O7,mapE b20 NName (NoteV m1_1),blk b6 58 [S0,S0,S0,S0]]) (T0 (T0 (T0 (T0 (T0 (T0 (T0 (T0 (T0 (T0 (mapE.up (fun _ h_=>h_.mono hI1) (.refl _)))))))))))) ?_
  refine qb ?_
  refine q' 4 r'<|f' r' t'<|b' 0 r' r' r'<|c' (X.eql r' r') (fun h77=>?_) fun h77=>?_
  ·exact v' 4 r'<|B4 7 [6] []<|Y' r' r' (A.f r')<|Y' r' r' (A.b 3 r' r' r')<|Y' r' r' (K4 0 r' r' r')<|Y' r' r' (X.call call154 rfl (H9 _ _ x_ ⟨_,_,_,_,rfl,hs66,hs68,hs70,hs72⟩))<|Y' r' r' (A.f r')<|Y' r' r' (J2 (k:=0) (vs:=[J x_.Read.Station,J x_.Read.Week,J x_.Read.Tick,J x_.Read.Levels.Lo,J x_.Read.Levels.Hi]) isAgg196 sizeOf196 rfl rfl rfl rfl)<|A0N r' r' r' (K1 (k:=(G4 x_)) runUnderlying286 F5 rfl rfl rfl (show B2 _ 5=_ from rfl) ⟨x_.Read,rfl⟩)<|V' 4 r'<|A1o m1_1 (Mem.le_refl _) (.cons _ (.refl _)) (Mem.le_refl _)
  refine v' 6 r'<|B4 6 [5] []<|Y' r' r' (A.f r')<|Y' r' r' (A.b 3 r' r' r')<|Y' r' r' (K4 0 r' r' r')<|Y' r' r' (X.call call154 rfl (H9 _ _ x_ ⟨_,_,_,_,rfl,hs66,hs68,hs70,hs72⟩))<|Y' r' r' (K4 0 r' r' r')<|A0N r' r' r' (K1 (k:=(G4 x_)) runUnderlying280 F5 rfl rfl rfl (show B2 _ 10=_ from rfl) ⟨_,x_,rfl,⟨_,_,_,_,rfl,hs66,hs68,hs70,hs72⟩⟩)<|V' 1 r'<|B4 10 [9] []<|Y' r' r' (A.f r')<|Y' r' r' (A.b 3 r' r' r')<|Y' r' r' (K4 0 r' r' r')<|Y' r' r' (X.call call154 rfl (H9 _ _ x_ ⟨_,_,_,_,rfl,hs66,hs68,hs70,hs72⟩))<|Y' r' r' (A.f r')<|Y' r' r' (A.b 0 r' r' r')<|Y' r' r' (A.f r')<|Y' r' r' (A.b 0 r' r' r')<|DW.x (V:=Value.agg [.pointer none,J x_.Station,J x_.Week].toArray) r' r' (X.build zeroValue296 runUnderlying296 (A5g _ underlying296) rfl rfl) (by decide) ?_
  exact A0N r' r' r' (K1 (k:=(G4 x_)) runUnderlying282 F5 rfl rfl rfl (show B2 _ 9=_ from rfl) ⟨_,_,rfl⟩)<|V' 1 r'<|A1o m1_1 (Mem.le_refl _) (.cons _ (.refl _)) (Mem.le_refl _)
 ·intro i m1_1 gh hm1_1 hi hI1
  refine have hp12:=hp12.mono hm1_1;have hM19:=hM19.mono hm1_1;have hx37:=hx37.mono hm1_1;R0 (σ':=[(0,.agg [v1,J b.Wind.Fixed,J b.Wind.Each,J b.Term,J b.Ticks,J b.Clerks].toArray),(1,v),(2,Pt b4 0),(3,Pt b5 0),(4,Pt b6 0),(10,v13),(11,.map (some b18)),(12,.map (some b20)),(13,.map (some b21)),(14,.map (some b22)),(15,.map (some b23)),(16,.map (some b24)),(17,.map (some b25)),(18,.map (some b26)),(19,.agg [.map (some b18),.map (some b20),.map (some b21),.map (some b22),.map (some b23),.map (some b24),.map (some b25),.map (some b26),S0,S0,S0,S0].toArray),(5,Pt b27 0),(20,.pointer (some (((⟨b4,0,none⟩:Addr)).add 0))),(21,v29),(22,v34),(23,Pt b27 8),(24,Pt b27 10),(25,v39),(26,v43),(27,.func (.func 231) #[] lb48.toArray)]) (.cons rfl (.cons rfl (.cons rfl (.cons rfl (.cons rfl (.cons rfl (.cons rfl (.cons rfl (.cons rfl (.cons rfl (.cons rfl (.cons rfl (.cons rfl (.cons rfl (.cons rfl (.cons rfl (.cons rfl (.cons rfl (.cons rfl (.cons rfl (.cons rfl (.cons rfl (.cons rfl (.cons rfl .nil)))))))))))))))))))))))) ?_
  show WK _ _ m1_1 [row (v34) 128 4 (b.Stations).length (ys36),A5 (S0) 73 (([]:List NName)),blk b27 289 [.map (some b18),.map (some b20),.map (some b21),.map (some b22),.map (some b23),.map (some b24),.map (some b25),.map (some b26),S0,S0,v34,S0],mapE b26 NName W6,mapE b25 NName (E9 ReadT),mapE b24 NName (E9 NName),mapE b23 NName (E9 Mark),mapE b22 NName (InPool (([]:List (Nat×Nat))) 0),mapE b21 NName O7,mapE b20 NName (NoteV gh),blk b6 58 [S0,S0,S0,S0]] [(0,.agg [v1,J b.Wind.Fixed,J b.Wind.Each,J b.Term,J b.Ticks,J b.Clerks].toArray),(1,v),(2,Pt b4 0),(3,Pt b5 0),(4,Pt b6 0),(10,v13),(11,.map (some b18)),(12,.map (some b20)),(13,.map (some b21)),(14,.map (some b22)),(15,.map (some b23)),(16,.map (some b24)),(17,.map (some b25)),(18,.map (some b26)),(19,.agg [.map (some b18),.map (some b20),.map (some b21),.map (some b22),.map (some b23),.map (some b24),.map (some b25),.map (some b26),S0,S0,S0,S0].toArray),(5,Pt b27 0),(20,.pointer (some (((⟨b4,0,none⟩:Addr)).add 0))),(21,v29),(22,v34),(23,Pt b27 8),(24,Pt b27 10),(25,v39),(26,v43),(27,.func (.func 231) #[] lb48.toArray)] _
  refine A0v<|L9<|q' 1 r' ?_
  refine A4w 9 rfl rfl (fun m78 hle79 hM1_=>?_)
  replace hp12:=hp12.mono hle79
  replace hM19:=hM19.mono hle79
  replace hx37:=hx37.mono hle79
  replace hM1_:MapN m78 b20:=hM1_.up (fun _ h_=>h_.mono (Mem.le_trans hI1 hle79))
  refine A0r 76 24<|G7 ReadT 196<|C0e 73 2<|WK.p [12,5,10,9,8,7,6,5,2,1,1,1] ?_
  obtain⟨g0,hg0⟩:∃g_:Fo,g_=⟨b27,b18,b20,b21,b22,b23,b24,b25,b26,(Value.slice none 0 0),[],[],((Value.slice none 0 0)),[],v34,ys36,b.Stations,Value.slice none 0 0,[],0⟩:=⟨_,rfl⟩
  have hp0:foP m78 g0 0 b.Stations.length:=(by subst hg0;exact⟨hM19,hM1_,RdL.nil,hx37,⟨Nat.le_refl _,Nat.le_refl _,Nat.le_refl _,rfl,(by omega)⟩,hht_,(fun a ha=>by cases ha)⟩)
  have hb0:g0.b=b27:=(by subst hg0;rfl)
  refine C2z (H':=[blk b6 58 [S0,S0,S0,S0]]++foE g0) (by subst hg0;rfl)<|q' 1 r'<|y' (X.makeFunc (by intro x hx;simp at hx;subst hx;all_goals exact⟨_,rfl⟩) rfl)<|v' 6 r'<|y' (A0O (by intro x hx;simp at hx;subst hx;all_goals exact⟨_,rfl⟩) rfl) ?_
  refine D1 (L5 (α:=Int) (vals:=[J 5]) (L:=[5]) L6 rfl (.cons rfl rfl .nil) rfl rfl) (by decide) (fun m80 v81 hle82 hs83=>?_)
  replace hp12:=hp12.mono hle82
  replace hp0:=hp0.mono hle82
  refine A6v (A2c (A:=[blk b6 58 [S0,S0,S0,S0]]) call155 rfl rfl rfl (A4t _ (fb:=b27) (N:=b.Stations.length) C7j hp12 hs83 hn hp0 hb0 (by omega) (fun _ _ _=>trivial))) (by decide) (fun m84 Es85 _ hle86 hR_=>?_)
  obtain⟨rfl,g87,rfl,hb88,hp89⟩:=hR_
  refine have hp12:=hp12.mono hle86;v' 5 r'<|y' (A0O (by intro x hx;simp at hx;subst hx;all_goals exact⟨_,rfl⟩) rfl) ?_
  refine D1 (L5 (α:=Int) (vals:=[J 2]) (L:=[2]) L6 rfl (.cons rfl rfl .nil) rfl rfl) (by decide) (fun m90 v91 hle92 hs93=>?_)
  replace hp12:=hp12.mono hle92
  replace hp89:=hp89.mono hle92
  refine A6v (A2c (A:=[blk b6 58 [S0,S0,S0,S0]]) call155 rfl rfl rfl (A4t _ (fb:=b27) (N:=b.Stations.length) C7C hp12 hs93 hn hp89 hb88 (by omega) (fun _ _ _=>trivial))) (by decide) (fun m94 Es95 _ hle96 hR_=>?_)
  obtain⟨rfl,g97,rfl,hb98,hp99⟩:=hR_
  refine have hp12:=hp12.mono hle96;v' 5 r'<|y' (A0O (by intro x hx;simp at hx;subst hx;all_goals exact⟨_,rfl⟩) rfl) ?_
  refine D1 (L5 (α:=Int) (vals:=[J 6]) (L:=[6]) L6 rfl (.cons rfl rfl .nil) rfl rfl) (by decide) (fun m100 v101 hle102 hs103=>?_)
  replace hp12:=hp12.mono hle102
  replace hp99:=hp99.mono hle102
  refine A6v (A2c (A:=[blk b6 58 [S0,S0,S0,S0]]) call155 rfl rfl rfl (A4t _ (fb:=b27) (N:=b.Stations.length) C7Y hp12 hs103 hn hp99 hb98 (by omega) (fun _ _ _=>trivial))) (by decide) (fun m104 Es105 _ hle106 hR_=>?_)
  obtain⟨rfl,g107,rfl,hb108,hp109⟩:=hR_
  refine have hp12:=hp12.mono hle106;v' 5 r'<|y' (A0O (by intro x hx;simp at hx;subst hx;all_goals exact⟨_,rfl⟩) rfl) ?_
  refine D1 (L5 (α:=Int) (vals:=[J 1]) (L:=[1]) L6 rfl (.cons rfl rfl .nil) rfl rfl) (by decide) (fun m110 v111 hle112 hs113=>?_)
  replace hp12:=hp12.mono hle112
  replace hp109:=hp109.mono hle112
  refine A6v (A2c (A:=[blk b6 58 [S0,S0,S0,S0]]) call155 rfl rfl rfl (A4t _ (fb:=b27) (N:=b.Stations.length) C7B hp12 hs113 hn hp109 hb108 (by omega) (fun a ha _=>hsbm_ a ha))) (by decide) (fun m114 Es115 _ hle116 hR_=>?_)
  obtain⟨rfl,g117,rfl,hb118,hp119⟩:=hR_
  refine have hp12:=hp12.mono hle116;v' 5 r'<|y' (A0O (by intro x hx;simp at hx;subst hx;all_goals exact⟨_,rfl⟩) rfl) ?_
  refine D1 (L5 (α:=Int) (vals:=[J 4]) (L:=[4]) L6 rfl (.cons rfl rfl .nil) rfl rfl) (by decide) (fun m120 v121 hle122 hs123=>?_)
  replace hp12:=hp12.mono hle122
  replace hp119:=hp119.mono hle122
  refine A6v (A2c (A:=[blk b6 58 [S0,S0,S0,S0]]) call155 rfl rfl rfl (A4t _ (fb:=b27) (N:=b.Stations.length) C7V hp12 hs123 hn hp119 hb118 (by omega) (fun a ha hk_=>hk4m_ a ha (C1a hk_)))) (by decide) (fun m124 Es125 _ hle126 hR_=>?_)
  obtain⟨rfl,g127,rfl,hb128,hp129⟩:=hR_
  refine have hp12:=hp12.mono hle126;v' 5 r'<|y' (X.makeFunc (by intro x hx;simp at hx;subst hx;all_goals exact⟨_,rfl⟩) rfl) ?_
  refine D1 (L5 (α:=Int) (vals:=[J 3]) (L:=[3]) L6 rfl (.cons rfl rfl .nil) rfl rfl) (by decide) (fun m130 v131 hle132 hs133=>?_)
  replace hp12:=hp12.mono hle132
  replace hp129:=hp129.mono hle132
  refine A6v (A2c (A:=[blk b6 58 [S0,S0,S0,S0]]) call155 rfl rfl rfl (A4t _ (fb:=b27) (N:=b.Stations.length) C6Z hp12 hs133 hn hp129 hb128 (by omega) (fun _ _ _=>trivial))) (by decide) (fun m134 Es135 _ hle136 hR_=>?_)
  obtain⟨rfl,g137,rfl,hb138,hp139⟩:=hR_
  refine have hp12:=hp12.mono hle136;v' 4 r' ?_
  obtain⟨fb,f0,f1,f2,f3,f4,f5,f6,f7,vS,xS,LS,vR,LR,vT,xT,LT,vC,ps,K⟩:=g137
  obtain⟨hM0,hM1,hxS,hxT,hbd,hts,hfi⟩:=hp139
  dsimp only at hb138 hbd hM0 hM1 hxS hxT hts hfi
  subst hb138
  show WK _ _ m134 [blk b6 58 [S0,S0,S0,S0],blk fb 289 [.map (some f0),.map (some f1),.map (some f2),.map (some f3),.map (some f4),.map (some f5),.map (some f6),.map (some f7),vS,vR,vT,vC],mapE f2 NName O7,mapE f3 NName (InPool ps K),mapE f4 NName (E9 Mark),mapE f5 NName (E9 NName),mapE f6 NName (E9 ReadT),mapE f7 NName W6,row (vS) 76 24 (LS).length (xS),A5 (vR) 196 (LR),row (vT) 128 4 (LT).length (xT),A5 (vC) 73 (([]:List NName)),I5 73 2 ps] _ _
  refine q' 1 r'<|s' hp12 r' fun v140 hs141=>have hl142:=hs141.le;l' hs141 r'<|v' 4 r' ?_
  refine lq3 (fun(k:Nat) (vD:Value) (LD:List NName)=>l.length-k) (fun k vD LD=>[blk b6 58 [S0,S0,S0,S0],blk fb 289 [.map (some f0),.map (some f1),.map (some f2),.map (some f3),.map (some f4),.map (some f5),.map (some f6),.map (some f7),vS,vR,vT,vD],mapE f2 NName O7,mapE f3 NName (InPool ps K),mapE f4 NName (E9 Mark),mapE f5 NName (E9 NName),mapE f6 NName (E9 ReadT),mapE f7 NName W6,row (vS) 76 24 (LS).length (xS),A5 (vR) 196 (LR),row (vT) 128 4 (LT).length (xT),A5 (vD) 73 (LD),I5 73 2 ps]) (fun k vD LD=>[(4,Pt b6 0),(5,Pt fb 0),(77,v140),(78,J l.length),(79,J k)]) (fun k vD LD=>k≤l.length∧LD.length≤k) 0 vC [] ?_ ?_
  ·exact⟨Nat.zero_le _,Nat.le_refl _⟩
  rintro k vD LD ⟨hk_,hLD⟩
  refine K6 (fun hgood0=>?_)
  refine q' 2 r'<|c' (X.lss r' r') (fun h144=>?_) fun h144=>?_
  ·refine v' 10 r'<|x' k hs141 r' r' fun p145 hp146=>g' hp146 r' fun c147 hc148=>?_
   obtain⟨v149,v151,v153,v155,rfl,hs150,hs152,hs154,hs156⟩:=hc148
   refine have hl157:=hs150.le;have hl158:=hs152.le;have hl159:=hs154.le;have hl160:=hs156.le;n' zeroValue200 r' fun b161=>w' 0 r' r' r'<|v' 5 r'<|f' r' t'<|b' 0 r' r' r'<|c' (X.eql r' r') (fun h162=>?_) fun h162=>?_
   ·refine v' 4 r'<|a' 0 r' r' ?_
    refine C2 (I3 [2,7] call162 r' (Q5 _ _ (gt l k) ⟨_,_,_,_,rfl,hs150,hs152,hs154,hs156⟩ hM0)) (by decide) (fun m163 Es_ u_ hle164 hR_=>?_)
    obtain⟨rfl,rfl⟩:=hR_
    refine have hxS:=hxS.mono hle164;have hxT:=hxT.mono hle164;have hs150:=hs150.mono hle164;have hs152:=hs152.mono hle164;have hs154:=hs154.mono hle164;have hs156:=hs156.mono hle164;v' 3 r'<|B4 5 [4] []<|Y' r' r' (A.f r')<|Y' r' r' (A.b 0 r' r' r')<|Y' r' r' (K4 2 r' r' r')<|Y' r' r' (X.call call154 rfl (H9 _ _ (gt l k) ⟨_,_,_,_,rfl,hs150,hs152,hs154,hs156⟩)) ?_
    refine A0U rfl rfl rfl (T8 (k:=(G4 ((gt l k)))) runUnderlying287 F5 zeroValue4 rfl rfl (show B2 _ 1=_ from rfl) ⟨false,rfl⟩) (by decide) (fun u165 hV166=>?_)
    obtain⟨q167,rfl⟩:=hV166
    cases q167
    ·exact V' 10 r'<|E5 hgood0 hle164<|WK.p [2,2,0,1,1,1,1,1]<|X1 (k+1) vD LD<|A4T
    refine V' 2 r'<|B4 10 [5,6,9] [6,9]<|Y' r' r' (A.f r')<|Y' r' r' (A.f r')<|Y' r' r' (A.b 0 r' r' r')<|Y' r' r' (K4 2 r' r' r')<|Y' r' r' (X.call call154 rfl (H9 _ _ (gt l k) ⟨_,_,_,_,rfl,hs150,hs152,hs154,hs156⟩))<|P4 r' r' r' (E6 A5j rfl rfl rfl (by decide)) (by decide) fun b168=>?_
    refine V0 rfl rfl rfl rfl (E2 (k:=12) (a:=G4 ((gt l k))) A5j rfl rfl rfl rfl (by first|omega|(simp;done)|(simp;omega)) (by decide)) (by decide) (fun v169=>?_)
    exact Y' r' r' (A.f r')<|Y' r' r' (A.f r')<|B3 r' r' r' r' (W8 (k:=12) rfl trivial (D0 rfl rfl rfl) fun ho170=>T.storeB (k:=0) sizeOf56 rfl rfl rfl ho170 (Nat.le_of_ble_eq_true rfl))<|V' 7 r'<|E5 hgood0 hle164<|WK.p [2,2,0,1,1,1,1,1]<|X1 (k+1) v169 (LD++[G4 ((gt l k))])<|A4T
   refine v' 6 r'<|B4 5 [4] []<|Y' r' r' (A.f r')<|Y' r' r' (A.b 2 r' r' r')<|Y' r' r' (K4 0 r' r' r')<|Y' r' r' (X.call call154 rfl (H9 _ _ (gt l k) ⟨_,_,_,_,rfl,hs150,hs152,hs154,hs156⟩)) ?_
   refine A0U rfl rfl rfl (T8 (k:=(G4 ((gt l k)))) runUnderlying287 F5 zeroValue4 rfl rfl (show B2 _ 8=_ from rfl) ⟨false,rfl⟩) (by decide) (fun u171 hV172=>?_)
   obtain⟨q173,rfl⟩:=hV172
   cases q173
   ·exact V' 10 r'<|X1 (k+1) vD LD<|A4T
   refine V' 2 r'<|B4 10 [5,6,9] [6,9]<|Y' r' r' (A.f r')<|Y' r' r' (A.f r')<|Y' r' r' (A.b 2 r' r' r')<|Y' r' r' (K4 0 r' r' r')<|Y' r' r' (X.call call154 rfl (H9 _ _ (gt l k) ⟨_,_,_,_,rfl,hs150,hs152,hs154,hs156⟩))<|P4 r' r' r' (E6 A5j rfl rfl rfl (by decide)) (by decide) fun b174=>?_
   refine V0 rfl rfl rfl rfl (E2 (k:=12) (a:=G4 ((gt l k))) A5j rfl rfl rfl rfl (by first|omega|(simp;done)|(simp;omega)) (by decide)) (by decide) (fun v175=>?_)
   exact Y' r' r' (A.f r')<|Y' r' r' (A.f r')<|B3 r' r' r' r' (W8 (k:=12) rfl trivial (D0 rfl rfl rfl) fun ho176=>T.storeB (k:=2) sizeOf56 rfl rfl rfl ho176 (Nat.le_of_ble_eq_true rfl))<|V' 7 r'<|X1 (k+1) v175 (LD++[G4 ((gt l k))])<|A4T
  refine v' 11 r'<|f' r' t'<|y' (J2 (k:=1) (vs:=[vS,vR,vT,vD]) isAgg58 sizeOf58 rfl rfl rfl rfl) ?_
  refine F7 (k:=8) rfl (fun ho177=>?_)
  refine F7 (k:=9) rfl (fun ho178=>?_)
  refine F7 (k:=10) rfl (fun ho179=>?_)
  refine F7 (k:=11) rfl (fun ho180=>?_)
  refine w' 0 r' r' r'<|v' 3 r' ?_
  refine N4 8 rfl rfl hxS (by unfold C8;omega) (fun m181 hle182 hs183=>?_)
  replace hxT:=hxT.mono hle182
  refine E1 8 rfl rfl (by unfold C8;omega) (fun m184 hle185 hs186=>?_)
  replace hxT:=hxT.mono hle185
  replace hs183:=hs183.mono hle185
  refine N4 8 rfl rfl hxT (by unfold C8;omega) (fun m187 hle188 hs189=>?_)
  replace hs183:=hs183.mono hle188
  replace hs186:=hs186.mono hle188
  refine E1 8 rfl rfl (by unfold C8;omega) (fun m190 hle191 hs192=>?_)
  exact have hs183:=hs183.mono hle191;have hs186:=hs186.mono hle191;have hs189:=hs189.mono hle191;T3 0 r' r' r' isAgg58 sizeOf58<|C5<|⟨_,((RegT.mk (LS) (LR) (LT) (LD))),rfl,⟨_,_,_,_,rfl,hs183,hs186,hs189,hs192⟩,⟨(by(try dsimp only);omega),(by(try dsimp only);omega),(by(try dsimp only);omega)⟩,hts,hfi⟩
 ·intro i m1 gh hm1 hi hI1
  exact hI1.elim
 intro id i m1 gh hm1 hi hI1
 exact hI1.elim
theorem C8J:rgB (RegT.mk [] [] [] []):=⟨⟨Nat.zero_le _,Nat.zero_le _,Nat.zero_le _⟩,fun i hi=>by simp at hi,fun a ha=>by cases ha⟩
theorem C4E{s:Sheet}(h:B0U s):shB s:=by
 have h1:=h.1
 unfold shB;omega
theorem C0s(m:Mem)(cb:List Value)(b:BaseT)(hb:Enc.rd m cb b)(vl:Value)(l:List NoteT)(hl:Sl m vl l)(hfl_:B7i l):Pure prog 36 #[.agg cb.toArray,vl] m (fun m' v=>∃(r0:List Value) (x0:RegT) (z1:Int),v= .tuple #[.agg r0.toArray,J z1]∧Enc.rd m' r0 x0∧rgB x0∧(z1=0→baE b=0)):=by
 obtain⟨v1,rfl,hs2⟩:=hb
 refine have hl3:=hs2.le;have ll:=hl.le;H7 func36 r' ntmps36 fun wld=>q' 2 r'<|o' r' r' fun b4=>n' zeroValue58 r' fun b5=>v' 5 r'<|fz (x:=b) 1 r' r' ⟨_,rfl,hs2⟩ fun m6 hle7 hp8=>have hl:=hl.mono hle7;q' 1 r'<|g' hp8 r' fun c9 hc10=>?_
 obtain⟨v11,rfl,hs12⟩:=hc10
 refine have hl13:=hs12.le;v' 1 r' ?_
 refine D1 (L5 (α:=List NoteT) (vals:=[vl]) (L:=[l]) C7W rfl (.cons (F4 hl.one) ⟨_,rfl,hl⟩ .nil) rfl rfl) (by decide) (fun m14 v15 hle16 hs17=>?_)
 refine have hl:=hl.mono hle16;have hp8:=hp8.mono hle16;have hs12:=hs12.mono hle16;D1 (T.call call80 rfl (C3U _ _ b ⟨_,rfl,hs12⟩ _ _ hs17)) (by decide) fun m18 r19 hle20 hR21=>?_
 obtain⟨z22,rfl,hx23⟩:=hR21
 refine have hl:=hl.mono hle20;have hp8:=hp8.mono hle20;v' 6 r'<|e' (X.neq r' r') (fun h24=>?_) fun h24=>?_
 ·refine v' 5 r'<|WL.x (V:=Value.agg [S0,S0,S0,S0].toArray) (X.build zeroValue58 runUnderlying58 (A4N _ underlying58) rfl rfl) (by decide) ?_
  exact v' 1 r'<|w' 0 r' r' r'<|v' 5 r'<|F2 0 r' r' r' r' isAgg58 sizeOf58<|C5<|⟨_,((RegT.mk ([]) ([]) ([]) ([]))),_,rfl,⟨_,_,_,_,rfl,.nil,.nil,.nil,.nil⟩,⟨C8J,fun h_=>by first|(exfalso;omega)|exact hok_.1⟩⟩
 refine v' 6 r' ?_
 have hok_:baE b=0∧l.length≤400∧∀q,q<l.length→(gt l q).Kind=4→0<b.Stations.length:=(by have h1_:=hx23 (by omega);exact⟨h1_.1,h1_.2 0 (Nat.zero_lt_succ _)⟩)
 refine q' 1 r'<|g' hp8 r' fun c25 hc26=>?_
 obtain⟨v27,rfl,hs28⟩:=hc26
 refine have hl29:=hs28.le;v' 1 r' ?_
 refine D1 (T.call call81 rfl (C5s _ _ b ⟨_,rfl,hs28⟩ hl (hok_.1) (by omega) (fun a ha=>by obtain⟨i,hi,rfl⟩:=A4m ha;exact hok_.2.2 i hi) (fun a ha=>by obtain⟨i,hi,rfl⟩:=A4m ha;exact C4E (hfl_.1 i hi)))) (by decide) (fun m30 _ hle31 hR_=>?_)
 obtain⟨c32,x33,rfl,hx34,hr35⟩:=hR_
 obtain⟨v36,v38,v40,v42,rfl,hs37,hs39,hs41,hs43⟩:=hx34
 exact have hl44:=hs37.le;have hl45:=hs39.le;have hl46:=hs41.le;have hl47:=hs43.le;w' 0 r' r' r'<|v' 4 r'<|F2 0 r' r' r' r' isAgg58 sizeOf58<|C5<|⟨_,x33,_,rfl,⟨_,_,_,_,rfl,hs37,hs39,hs41,hs43⟩,⟨hr35,fun h_=>by first|(exfalso;omega)|exact hok_.1⟩⟩
end Go.Proofs.S10
