import Derived.Test.YtooomcigmleneaaGreatKxW
import Derived.Test.YtooomcigmleneaaGreatKyP
import Derived.Test.YtooomcigmleneaaGreatT10Ty
import Derived.Test.YtooomcigmleneaaGreatKxU
import Derived.Test.YtooomcigmleneaaGreatT10W40
import Derived.Test.YtooomcigmleneaaGreatT10W22
import Derived.Test.YtooomcigmleneaaGreatT10SWk
set_option linter.all false
set_option maxHeartbeats 8000000
namespace Go.Proofs.S10
open Tryz
set_option maxRecDepth 20000
open Go Go.Kx Go.Proofs.T10
theorem B0G{G:Prop}(h:G:=by first|rfl|(exfalso;omega)|(exfalso;contradiction)|exact(C7 (by omega)).symm):G:=h
theorem law4(m:Mem)(cb:List Value)(b:BaseT)(hb:Enc.rd m cb b)(vl:Value)(l:List NoteT)(hl:Sl m vl l)(week:Int)(vc:Value)(c:List Course)(hc:Sl m vc c)(ok0:Rng.ok b)(ok1:Rng.ok l)(lo2: -9223372036854775808≤week)(hi2:week≤9223372036854775807)(ok3:Rng.ok c):Exact prog 4 #[.agg cb.toArray,vl,J week,vc] m (.bool true):=by
 obtain⟨v1,rfl,hs2⟩:=hb
 refine have hl3:=hs2.le;have ll:=hl.le;have lc:=hc.le;C6 func4 r' ntmps4 fun wld=>q' 2 r'<|o' r' r' fun b4=>v' 4 r'<|fz (x:=b) 0 r' r' ⟨_,rfl,hs2⟩ fun m5 hle6 hp7=>have hl:=hl.mono hle6;have hc:=hc.mono hle6;q' 1 r'<|y' (X.call call7 rfl (C5c _))<|v' 5 r'<|g' hp7 r' fun c8 hc9=>?_
 obtain⟨v10,rfl,hs11⟩:=hc9
 refine have hl12:=hs11.le;v' 2 r'<|D1 (T.call call13 rfl (C1e _ _ b ⟨_,rfl,hs11⟩ _ _ hl _)) (by decide) fun m13 r14 hle15 hR16=>?_
 obtain⟨c17,x18,c20,x21,q23,rfl,hc19,hc22,hx24⟩:=hR16
 replace hc:=hc.mono hle15
 obtain⟨v25,v27,v29,v31,rfl,hs26,hs28,hs30,hs32⟩:=hc19
 have hl33:=hs26.le
 have hl34:=hs28.le
 have hl35:=hs30.le
 have hl36:=hs32.le
 obtain⟨v37,v39,v41,rfl,hs38,hs40,hs42⟩:=hc22
 refine have hl43:=hs38.le;have hl44:=hs40.le;have hl45:=hs42.le;v' 4 r'<|n' zeroValue58 r' fun b46=>n' zeroValue60 r' fun b47=>w' 1 r' r' r'<|w' 0 r' r' r'<|v' 5 r'<|fz (x:=x21) 0 r' r' ⟨_,_,_,rfl,hs38,hs40,hs42⟩ fun m48 hle49 hp50=>have hc:=hc.mono hle49;q' 2 r' ?_
 refine J8 (X.not rfl) (by decide) (fun h51=>?_) (fun h51=>?_)
 ·exact v' 16 r'<|A0 r' r'<|A7<|B0G
 refine v' 4 r'<|l' hc r'<|v' 1 r'<|c' (X.gtr r' r') (fun h52=>?_) fun h52=>?_
 ·exact v' 12 r'<|A0 r' r'<|A7<|B0G
 refine v' 7 r' ?_
 have hz_:=(hx24 (by have h_:(!q23)=false:=(by assumption);cases hq2_:q23 with|true=>rfl|false=>rw[hq2_]at h_;exact absurd h_ (by decide))).1
 have hzt_:=(hx24 (by have h_:(!q23)=false:=(by assumption);cases hq2_:q23 with|true=>rfl|false=>rw[hq2_]at h_;exact absurd h_ (by decide))).2.1
 refine B4 12 [] []<|U' 2 r'<|G' hp50 r' r' r' fun c53 hc54=>?_
 obtain⟨v55,v57,v59,rfl,hs56,hs58,hs60⟩:=hc54
 refine have hl61:=hs56.le;have hl62:=hs58.le;have hl63:=hs60.le;U' 1 r'<|Y' r' r' (X.call call14 rfl (C3Y _ _ x21 ⟨_,_,_,rfl,hs56,hs58,hs60⟩ _ _ hc))<|U' 1 r'<|G' hp50 r' r' r' fun c64 hc65=>?_
 obtain⟨v66,v68,v70,rfl,hs67,hs69,hs71⟩:=hc65
 exact have hl72:=hs67.le;have hl73:=hs69.le;have hl74:=hs71.le;U' 1 r'<|Y' r' r' (X.call call15 rfl (C7c _ _ x21 ⟨_,_,_,rfl,hs67,hs69,hs71⟩ _ _ hc hz_))<|Y' r' r' (A1k (C5K underlying4 rfl rfl) (decide_eq_decide.2 (B9q hz_)))<|U' 2 r'<|V' 2 r'<|A0 r' r'<|A7<|B0G
end Go.Proofs.S10
