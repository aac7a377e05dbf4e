import Derived.Test.YtooomcigmleneaaGreatKxW
import Derived.Test.YtooomcigmleneaaGreatKyP
import Derived.Test.YtooomcigmleneaaGreatT10Ty
import Derived.Test.YtooomcigmleneaaGreatKxU
import Derived.Test.YtooomcigmleneaaGreatT10W40
import Derived.Test.YtooomcigmleneaaGreatT10W22
import Derived.Test.YtooomcigmleneaaGreatT10SMix
set_option linter.all false
set_option maxHeartbeats 16000000
namespace Go.Proofs.S10
open Tryz
set_option maxRecDepth 20000
open Go Go.Kx Go.Proofs.T10
theorem A4p{G:Prop}(h:G:=by first|rfl|(exfalso;omega)|(exfalso;contradiction)|exact(C9 (by omega)).symm):G:=h
theorem law5(m:Mem)(cb:List Value)(b:BaseT)(hb:Enc.rd m cb b)(vl:Value)(l:List NoteT)(hl:Sl m vl l)(week:Int)(vone:Value)(one:List Course)(hone:Sl m vone one)(vtwo:Value)(two:List Course)(htwo:Sl m vtwo two)(ok0:Rng.ok b)(ok1:Rng.ok l)(lo2: -9223372036854775808≤week)(hi2:week≤9223372036854775807)(ok3:Rng.ok one)(ok4:Rng.ok two):Exact prog 5 #[.agg cb.toArray,vl,J week,vone,vtwo] m (.bool true):=by
 obtain⟨v1,rfl,hs2⟩:=hb
 refine have hl3:=hs2.le;have ll:=hl.le;have lone:=hone.le;have ltwo:=htwo.le;C7 func5 r' ntmps5 fun wld=>q' 2 r'<|o' r' r' fun b4=>v' 4 r'<|fz (x:=b) 0 r' r' ⟨_,rfl,hs2⟩ fun m5 hle6 hp7=>have hl:=hl.mono hle6;have hone:=hone.mono hle6;have htwo:=htwo.mono hle6;q' 1 r'<|y' (X.call call7 rfl (C5M _))<|v' 5 r'<|g' hp7 r' fun c8 hc9=>?_
 obtain⟨v10,rfl,hs11⟩:=hc9
 refine have hl12:=hs11.le;v' 2 r'<|D1 (T.call call13 rfl (C0J _ _ b ⟨_,rfl,hs11⟩ _ _ hl _)) (by decide) fun m13 r14 hle15 hR16=>?_
 obtain⟨c17,x18,c20,x21,q23,rfl,hc19,hc22,hx24⟩:=hR16
 replace hone:=hone.mono hle15
 replace htwo:=htwo.mono hle15
 replace hp7:=hp7.mono hle15
 obtain⟨v25,v27,v29,v31,rfl,hs26,hs28,hs30,hs32⟩:=hc19
 have hl33:=hs26.le
 have hl34:=hs28.le
 have hl35:=hs30.le
 have hl36:=hs32.le
 obtain⟨v37,v39,v41,rfl,hs38,hs40,hs42⟩:=hc22
 refine have hl43:=hs38.le;have hl44:=hs40.le;have hl45:=hs42.le;v' 4 r'<|n' zeroValue58 r' fun b46=>n' zeroValue60 r' fun b47=>w' 1 r' r' r'<|w' 0 r' r' r'<|v' 5 r'<|fz (x:=x21) 0 r' r' ⟨_,_,_,rfl,hs38,hs40,hs42⟩ fun m48 hle49 hp50=>have hone:=hone.mono hle49;have htwo:=htwo.mono hle49;have hp7:=hp7.mono hle49;q' 2 r' ?_
 refine K2 (X.not rfl) (by decide) (fun h51=>?_) (fun h51=>?_)
 ·exact v' 33 r'<|A0 r' r'<|A7<|A4p
 refine v' 4 r'<|l' hone r'<|v' 1 r'<|c' (X.gtr r' r') (fun h52=>?_) fun h52=>?_
 ·exact v' 29 r'<|A0 r' r'<|A7<|A4p
 refine v' 5 r'<|l' htwo r'<|v' 1 r'<|c' (X.gtr r' r') (fun h53=>?_) fun h53=>?_
 ·exact v' 24 r'<|A0 r' r'<|A7<|A4p
 refine v' 3 r'<|g' hp50 r' fun c54 hc55=>?_
 obtain⟨v56,v58,v60,rfl,hs57,hs59,hs61⟩:=hc55
 refine have hl62:=hs57.le;have hl63:=hs59.le;have hl64:=hs61.le;v' 2 r' ?_
 have hz_:=(hx24 (by have h_:(!q23)=false:=(by assumption);cases hq2_:q23 with|true=>rfl|false=>rw[hq2_]at h_;exact absurd h_ (by decide))).1
 have hzt_:=(hx24 (by have h_:(!q23)=false:=(by assumption);cases hq2_:q23 with|true=>rfl|false=>rw[hq2_]at h_;exact absurd h_ (by decide))).2.1
 refine v' 1 r'<|c' (X.call call15 rfl (B2n _ _ x21 ⟨_,_,_,rfl,hs57,hs59,hs61⟩ _ _ hone hz_)) (fun h65=>?_) fun h65=>?_
 ·refine v' 5 r'<|g' hp50 r' fun c66 hc67=>?_
  obtain⟨v68,v70,v72,rfl,hs69,hs71,hs73⟩:=hc67
  refine have hl74:=hs69.le;have hl75:=hs71.le;have hl76:=hs73.le;v' 3 r'<|c' (X.call call15 rfl (B2n _ _ x21 ⟨_,_,_,rfl,hs69,hs71,hs73⟩ _ _ htwo hz_)) (fun h77=>?_) fun h77=>?_
  ·refine v' 9 r'<|A0r 37 4<|q' 5 r'<|A0r 37 4<|q' 6 r' ?_
   have hw1_:A0T x21 one:=(by assumption)
   have hw2_:A0T x21 two:=(by assumption)
   have hll_:two.length=one.length:=hw2_.1.1.trans hw1_.1.1.symm
   refine q' 5 r' ?_
   refine lp (G:=Nat×Value×List Value×Value×List Value) (fun(k,vL,xL,vH,xH)=>one.length-k) (fun(k,vL,xL,vH,xH)=>m48) (fun(k,vL,xL,vH,xH)=>[row (vH) 37 4 (V6 one two b.Term k).length (xH),row (vL) 37 4 (A0x one two b.Term k).length (xL),blk b46 58 [v25,v27,v29,v31]]) (fun(k,vL,xL,vH,xH)=>[(3,vone),(4,vtwo),(5,Pt b4 0),(11,.bool true),(13,Pt b47 0),(15,vL),(16,vH),(17,J k)]) (fun(k,vL,xL,vH,xH)=>k≤one.length∧RdL m48 xL (A0x one two b.Term k)∧RdL m48 xH (V6 one two b.Term k)) ((0,Value.slice none 0 0,[],(Value.slice none 0 0),[])) ?_ ?_
   ·exact⟨Nat.zero_le _,RdL.nil,RdL.nil⟩
   rintro⟨k,vL,xL,vH,xH⟩ hF78
   conv=>enter [7];dsimp only
   conv=>enter [8];dsimp only
   try dsimp only at hF78
   obtain⟨hk,hxL,hxH⟩:=hF78
   have hlk_:(A0x one two b.Term k).length=k:=C4 _ _
   have hhk_:(V6 one two b.Term k).length=k:=C4 _ _
   have ht1_:=fun h_:k<one.length=>B3M hz_ hw1_ hzt_ k h_
   have ht2_:=fun h_:k<one.length=>B3M hz_ hw2_ hzt_ k (by omega)
   refine q' 5 r'<|l' hone r'<|c' (X.lss r' r') (fun h79=>?_) fun h79=>?_
   ·refine v' 8 r'<|B4 19 [] []<|U' 2 r'<|X' k hone r' r' r' r' fun p80 hp81=>have hp82:=J1 hp81;Y' r' r' (A.f r')<|S' hp82 r' r' r' fun v83 hs84=>have hl85:=hs84.le;have hp86:=A1E hp7;Y' r' r' (A.f r')<|Y' r' r' (A.i r' hp86)<|G9 r' r' (A0V runUnderlying27 sizeOf3 rfl rfl hs84 (by omega) (by omega)) (by decide) fun p87 hp88=>Y' r' r' (A.i r' hp88)<|U' 2 r'<|X' k htwo r' r' r' r' fun p89 hp90=>have hp91:=J1 hp90;Y' r' r' (A.f r')<|S' hp91 r' r' r' fun v92 hs93=>have hl94:=hs93.le;have hp95:=A1E hp7;Y' r' r' (A.f r')<|Y' r' r' (A.i r' hp95)<|G9 r' r' (A0V runUnderlying27 sizeOf3 rfl rfl hs93 (by omega) (by omega)) (by decide) fun p96 hp97=>Y' r' r' (A.i r' hp97)<|C' r' r' (X.leq r' r') (fun h98=>?_) fun h98=>?_
    ·refine V' 7 r'<|x' k hone r' r' fun p99 hp100=>g' hp100 r' fun c101 hc102=>?_
     obtain⟨v103,v105,v107,rfl,hs104,hs106,hs108⟩:=hc102
     refine have hl109:=hs104.le;have hl110:=hs106.le;have hl111:=hs108.le;T6 (E6 A7e rfl rfl rfl (by decide)) (by decide) fun b112=>?_
     refine G2 (W4 (k:=1) (n':=((A0x one two b.Term k)++[gt one k]).length) A7e rfl rfl rfl rfl rfl (A4 rfl (A4 hs104.one (A4 hs106.one (A4 hs108.one C0)))) (by simp) (by first|omega|(simp;omega)) (by first|omega|(simp;omega))) (by decide) (fun v113=>?_)
     refine have hx114:=X6 (a:=gt one k) hxL ⟨_,_,_,rfl,hs104,hs106,hs108⟩;v' 7 r'<|x' k htwo r' r' fun p115 hp116=>g' hp116 r' fun c117 hc118=>?_
     obtain⟨v119,v121,v123,rfl,hs120,hs122,hs124⟩:=hc118
     refine have hl125:=hs120.le;have hl126:=hs122.le;have hl127:=hs124.le;T6 (E6 A7e rfl rfl rfl (by decide)) (by decide) fun b128=>?_
     refine G2 (W4 (k:=0) (n':=((V6 one two b.Term k)++[gt two k]).length) A7e rfl rfl rfl rfl rfl (A4 rfl (A4 hs120.one (A4 hs122.one (A4 hs124.one C0)))) (by simp) (by first|omega|(simp;omega)) (by first|omega|(simp;omega))) (by decide) (fun v129=>?_)
     refine have hx130:=X6 (a:=gt two k) hxH ⟨_,_,_,rfl,hs120,hs122,hs124⟩;v' 10 r' ?_
     have he131:((A0x one two b.Term k)++[gt one k])=(A0x one two b.Term (k+1)):=(B5j (by assumption)).1
     rw[he131]
     rw[he131]at hx114
     have he132:((V6 one two b.Term k)++[gt two k])=(V6 one two b.Term (k+1)):=(B5j (by assumption)).2
     rw[he132]
     rw[he132]at hx130
     refine nx ((k+1,v113,xL++[J ((gt one k).Zero),v103,v105,v107],v129,xH++[J ((gt two k).Zero),v119,v121,v123])) ?_ ?_
     ·exact⟨by omega,hx114,hx130⟩
     (dsimp only;omega)
    refine V' 7 r'<|x' k htwo r' r' fun p133 hp134=>g' hp134 r' fun c135 hc136=>?_
    obtain⟨v137,v139,v141,rfl,hs138,hs140,hs142⟩:=hc136
    refine have hl143:=hs138.le;have hl144:=hs140.le;have hl145:=hs142.le;T6 (E6 A7e rfl rfl rfl (by decide)) (by decide) fun b146=>?_
    refine G2 (W4 (k:=1) (n':=((A0x one two b.Term k)++[gt two k]).length) A7e rfl rfl rfl rfl rfl (A4 rfl (A4 hs138.one (A4 hs140.one (A4 hs142.one C0)))) (by simp) (by first|omega|(simp;omega)) (by first|omega|(simp;omega))) (by decide) (fun v147=>?_)
    refine have hx148:=X6 (a:=gt two k) hxL ⟨_,_,_,rfl,hs138,hs140,hs142⟩;v' 7 r'<|x' k hone r' r' fun p149 hp150=>g' hp150 r' fun c151 hc152=>?_
    obtain⟨v153,v155,v157,rfl,hs154,hs156,hs158⟩:=hc152
    refine have hl159:=hs154.le;have hl160:=hs156.le;have hl161:=hs158.le;T6 (E6 A7e rfl rfl rfl (by decide)) (by decide) fun b162=>?_
    refine G2 (W4 (k:=0) (n':=((V6 one two b.Term k)++[gt one k]).length) A7e rfl rfl rfl rfl rfl (A4 rfl (A4 hs154.one (A4 hs156.one (A4 hs158.one C0)))) (by simp) (by first|omega|(simp;omega)) (by first|omega|(simp;omega))) (by decide) (fun v163=>?_)
    refine have hx164:=X6 (a:=gt one k) hxH ⟨_,_,_,rfl,hs154,hs156,hs158⟩;v' 10 r' ?_
    have he165:((A0x one two b.Term k)++[gt two k])=(A0x one two b.Term (k+1)):=(B8K (by assumption)).1
    rw[he165]
    rw[he165]at hx148
    have he166:((V6 one two b.Term k)++[gt one k])=(V6 one two b.Term (k+1)):=(B8K (by assumption)).2
    rw[he166]
    rw[he166]at hx164
    refine nx ((k+1,v147,xL++[J ((gt two k).Zero),v137,v139,v141],v163,xH++[J ((gt one k).Zero),v153,v155,v157])) ?_ ?_
    ·exact⟨by omega,hx148,hx164⟩
    (dsimp only;omega)
   refine v' 9 r' ?_
   refine N4 1 rfl rfl hxL (by unfold C8;first|(rw[hlk_];omega)|(rw[hhk_];omega)) (fun m167 hle168 hs169=>?_)
   replace hp50:=hp50.mono hle168
   replace hxH:=hxH.mono hle168
   refine N4 0 rfl rfl hxH (by unfold C8;first|(rw[hlk_];omega)|(rw[hhk_];omega)) (fun m170 hle171 hs172=>?_)
   replace hp50:=hp50.mono hle171
   replace hs169:=hs169.mono hle171
   have hwl_:A0T x21 (A0x one two b.Term k):=C3K hw1_ hw2_ hzt_ (by omega)
   have hwh_:A0T x21 (V6 one two b.Term k):=C0I hw1_ hw2_ hzt_ (by omega)
   refine q' 4 r'<|g' hp50 r' fun c173 hc174=>?_
   obtain⟨v175,v177,v179,rfl,hs176,hs178,hs180⟩:=hc174
   refine have hl181:=hs176.le;have hl182:=hs178.le;have hl183:=hs180.le;v' 3 r'<|y' (A0i (X.call call15 rfl (B2n _ _ x21 ⟨_,_,_,rfl,hs176,hs178,hs180⟩ _ _ hs169 hz_)) hwl_)<|v' 3 r'<|g' hp50 r' fun c184 hc185=>?_
   obtain⟨v186,v188,v190,rfl,hs187,hs189,hs191⟩:=hc185
   refine have hl192:=hs187.le;have hl193:=hs189.le;have hl194:=hs191.le;v' 3 r'<|y' (A0i (X.call call15 rfl (B2n _ _ x21 ⟨_,_,_,rfl,hs187,hs189,hs191⟩ _ _ hs172 hz_)) hwh_)<|v' 3 r'<|g' hp50 r' fun c195 hc196=>?_
   obtain⟨v197,v199,v201,rfl,hs198,hs200,hs202⟩:=hc196
   refine have hl203:=hs198.le;have hl204:=hs200.le;have hl205:=hs202.le;v' 3 r'<|y' (X.call call14 rfl (B5A _ _ x21 ⟨_,_,_,rfl,hs198,hs200,hs202⟩ _ _ hs169))<|v' 1 r'<|y' (A0i (X.eql rfl rfl) ((B2d hz_).2 hwl_))<|v' 3 r'<|g' hp50 r' fun c206 hc207=>?_
   obtain⟨v208,v210,v212,rfl,hs209,hs211,hs213⟩:=hc207
   exact have hl214:=hs209.le;have hl215:=hs211.le;have hl216:=hs213.le;v' 3 r'<|y' (X.call call14 rfl (B5A _ _ x21 ⟨_,_,_,rfl,hs209,hs211,hs213⟩ _ _ hs172))<|v' 1 r'<|y' (A0i (X.eql rfl rfl) ((B2d hz_).2 hwh_))<|v' 5 r'<|A0 r' r'<|A7<|A4p
  exact v' 14 r'<|A0 r' r'<|A7<|A4p
 exact v' 20 r'<|A0 r' r'<|A7<|A4p
end Go.Proofs.S10
