import Derived.Test.YtooomcigmleneaaGreatKxW
import Derived.Test.YtooomcigmleneaaGreatKyP
import Derived.Test.YtooomcigmleneaaGreatT10Ty
import Derived.Test.YtooomcigmleneaaGreatKxU
import Derived.Test.YtooomcigmleneaaGreatT10Ink2
import Derived.Test.YtooomcigmleneaaGreatT10W14
set_option linter.all false
set_option maxHeartbeats 8000000
namespace Go.Proofs.T10
open Tryz
set_option maxRecDepth 20000
open Go Go.Kx
variable{G:Prop}
theorem A6g(h:G:=by first|exact⟨_,F8 rfl (A8 (by rw[B3C (by omega)])),by rw[A9j (by rw[B3C (by omega)];omega)];exact⟨_,rfl,.nil⟩⟩|exact⟨_,F8 rfl (A8 (by rw[B1y (by omega) (fun h_=>by have h1_:=h_ k (by omega);omega)])),by rw[A9j (by rw[B1y (by omega) (fun h_=>by have h1_:=h_ k (by omega);omega)];omega)];exact⟨_,rfl,.nil⟩⟩|exact⟨_,F8 rfl (A8 (by rw[B3V (by omega) hbp_ (fun h_=>by have h1_:=h_ q (by omega);rw[A7X hnb_]at h1_;omega)])),by rw[A9j (by rw[B3V (by omega) hbp_ (fun h_=>by have h1_:=h_ q (by omega);rw[A7X hnb_]at h1_;omega)];omega)];exact⟨_,rfl,.nil⟩⟩):G:=h
theorem B4A(h:G:=by exact⟨by omega,fun j hj=>by rcases Nat.lt_succ_iff_lt_or_eq.1 hj with h|h;exact hall j h;subst h;exact⟨by omega,fun _=>by omega⟩⟩):G:=h
theorem B2J(h:G:=by exact⟨by omega,hstep_,fun j hj=>by rcases Nat.lt_succ_iff_lt_or_eq.1 hj with h|h;exact hin_ j h;subst h;first|(rw[B4d hyb_];exact Nat.zero_le _)|(rw[A7X hnb_];omega)⟩):G:=h
theorem B6i(m:Mem)(cp:List Value)(p:Paper)(hp:Enc.rd m cp p)(vl:Value)(l:List Point)(hl:Sl m vl l)(vblots:Value)(blots:List Int)(hblots:Sl m vblots blots):Pure prog 28 #[.agg cp.toArray,vl,vblots] m (fun m' v=>∃r0,v= .tuple #[.agg r0.toArray,J (A2z p l blots)]∧Enc.rd m' r0 ((Inked.mk (A0R p l blots)))):=by
 obtain rfl:=hp
 refine have ll:=hl.le;have lblots:=hblots.le;H7 func28 r' ntmps28 fun wld=>q' 2 r'<|o' r' r' fun b1=>n' zeroValue104 r' fun b2=>v' 4 r'<|fz (x:=p) 1 r' r' r' fun m3 hle4 hp5=>have hl:=hl.mono hle4;have hblots:=hblots.mono hle4;q' 1 r'<|g' hp5 r' fun c6 hc7=>?_
 obtain rfl:=hc7
 refine v' 1 r' ?_
 refine D1 (T.call call73 rfl (C5h _ (p:=p) hl)) (by decide) (fun m8 _ hle9 hR_=>?_)
 obtain⟨x10,rfl,hr11⟩:=hR_
 refine have hl:=hl.mono hle9;have hblots:=hblots.mono hle9;have hp5:=hp5.mono hle9;v' 3 r'<|n' zeroValue179 r' fun b12=>w' 0 r' r' r'<|v' 7 r'<|e' (X.neq r' r') (fun h13=>?_) fun h13=>?_
 ·refine v' 5 r'<|WL.x (V:=Value.agg [S0].toArray) (X.build zeroValue104 runUnderlying104 (A3t _ underlying104) rfl rfl) (by decide) ?_
  exact v' 1 r'<|w' 1 r' r' r'<|v' 5 r'<|F2 1 r' r' r' r' isAgg104 sizeOf104<|C5<|A6g
 refine v' 6 r' ?_
 have hre_:A0z p l=0:=(by omega)
 obtain rfl:=(hr11 hre_).symm
 obtain⟨hf_,hln_,htr_⟩:=C1f hre_
 refine have hfc_:=hf_.2.2.1;have hfh_:=hf_.1.2.1;fz (x:=p) 0 r' r' r' fun m14 hle15 hp16=>have hl:=hl.mono hle15;have hblots:=hblots.mono hle15;have hp5:=hp5.mono hle15;q' 1 r'<|have hp17:=Y7 hp5;f' r' t'<|i' hp17 r' ?_
 obtain⟨n_,hn_⟩:∃qq__:Nat,(p.Columns:Int)=(qq__:Int):=⟨(p.Columns:Int).toNat,(by omega)⟩
 rw[hn_]
 have hn_:=hn_
 refine G2 (A5M n_ (a:=(⟨()⟩:ColV)) C7u rfl rfl rfl (by omega) (by decide)) (by decide) (fun v18=>?_)
 rw[B8i]
 refine v' 5 r'<|B5s Span 23 n_ ?_
 have hbz_:=B9W blots n_
 rw[hbz_]
 refine q' 2 r'<|l' hblots r'<|v' 4 r' ?_
 refine I0 (fun(k:Nat)=>blots.length-k) (fun k=>[M2 (J6 23 ((List.replicate n_ (Value.slice none 0 0))) ((List.replicate n_ ([]:List Span)))),row (v18) 186 2 (n_) (O0 (List.replicate n_ (Value.slice none 0 0)) (blN blots n_ k)),blk b2 104 [S0]]) (fun k=>[(1,vl),(2,vblots),(3,Pt b1 0),(6,Pt b2 0),(8,Pt b12 0),(10,v18),(36,vblots),(37,J blots.length),(38,J k)]) (fun k=>k≤blots.length∧(∀i,i<k→(0≤gt blots i∧gt blots i≤p.Columns-1)∧(0<i→gt blots (i-1)<gt blots i))) 0 ?_ ?_
 ·exact⟨Nat.zero_le _,fun j hj=>absurd hj (Nat.not_lt_zero _)⟩
 rintro k ⟨hk,hall⟩
 have hcl_:(List.replicate n_ (Value.slice none 0 0)).length=(blN blots n_ k).length:=(by rw[B5l];simp)
 refine q' 2 r'<|c' (X.lss r' r') (fun h20=>?_) fun h20=>?_
 ·refine v' 11 r'<|x' k hblots r' r' fun p21 hp22=>i' hp22 r'<|v' 8 r'<|have hp23:=Y7 hp5;f' r' t'<|i' hp23 r'<|v' 1 r'<|c' (X.call call74 rfl (A0g _ _ _ _)) (fun h24=>?_) fun h24=>?_
  ·refine v' 5 r'<|c' (X.gtr r' r') (fun h25=>?_) fun h25=>?_
   ·refine v' 11 r'<|P5 (Q4 (k-1) runUnderlying27 sizeOf3 rfl rfl hblots (by omega) (by omega)) (by decide) fun p26 hp27=>v' 1 r'<|i' hp27 r'<|v' 1 r'<|c' (X.leq r' r') (fun h28=>?_) fun h28=>?_
    ·refine v' 8 r'<|WL.x (V:=Value.agg [S0].toArray) (X.build zeroValue104 runUnderlying104 (A3t _ underlying104) rfl rfl) (by decide) ?_
     exact w' 2 r' r' r'<|v' 10 r'<|F2 2 r' r' r' r' isAgg104 sizeOf104<|C5<|A6g
    refine v' 8 r' ?_
    obtain⟨c_,hc_⟩:∃qq__:Nat,(gt blots k:Int)=(qq__:Int):=⟨(gt blots k:Int).toNat,(by omega)⟩
    rw[hc_]
    refine q' 3 r'<|y' (B0 1 c_)<|f' r' t'<|I2 (A2e (off:=c_*2+1) (k:=1) sizeOf4 rfl rfl rfl rfl (by rw[A8O hcl_];simp;omega))<|v' 8 r' ?_
    have he29:((O0 (List.replicate n_ (Value.slice none 0 0)) (blN blots n_ k)).set (c_*2+1) (.bool true))=(O0 (List.replicate n_ (Value.slice none 0 0)) (blN blots n_ (k+1))):=(by rw[A7I _ hcl_,B4g (by omega)])
    rw[he29]
    exact G5 (k+1)<|B4A
   refine v' 17 r' ?_
   obtain⟨c_,hc_⟩:∃qq__:Nat,(gt blots k:Int)=(qq__:Int):=⟨(gt blots k:Int).toNat,(by omega)⟩
   rw[hc_]
   refine q' 3 r'<|y' (B0 1 c_)<|f' r' t'<|I2 (A2e (off:=c_*2+1) (k:=1) sizeOf4 rfl rfl rfl rfl (by rw[A8O hcl_];simp;omega))<|v' 8 r' ?_
   have he30:((O0 (List.replicate n_ (Value.slice none 0 0)) (blN blots n_ k)).set (c_*2+1) (.bool true))=(O0 (List.replicate n_ (Value.slice none 0 0)) (blN blots n_ (k+1))):=(by rw[A7I _ hcl_,B4g (by omega)])
   rw[he30]
   exact G5 (k+1)<|B4A
  refine v' 19 r'<|WL.x (V:=Value.agg [S0].toArray) (X.build zeroValue104 runUnderlying104 (A3t _ underlying104) rfl rfl) (by decide) ?_
  exact w' 2 r' r' r'<|v' 10 r'<|F2 2 r' r' r' r' isAgg104 sizeOf104<|C5<|A6g
 refine v' 13 r'<|l' hl r'<|v' 4 r' ?_
 have hkb_:k=blots.length:=(by omega)
 rw[hkb_]
 have hbp_:A6s p blots:=(fun i hi=>hall i (by omega))
 obtain⟨bs,hbs_⟩:∃q_:List Bool,q_=blN blots n_ blots.length:=⟨_,rfl⟩
 rw[←hbs_]
 have hbl_:bs.length=n_:=(by rw[hbs_];exact B5l _ _ _)
 have he31:((List.replicate n_ ([]:List Span)))=(E8 n_ (fun j=>Y4 p l j 0)):=B0P n_
 rw[he31]
 refine O6 (fun(k:Nat) (vs:List Value)=>l.length-k) (fun k vs=>[M2 (J6 23 vs (E8 n_ (fun j=>Y4 p l j k))),row (v18) 186 2 (n_) (O0 vs bs),blk b2 104 [S0]]) (fun k vs=>[(3,Pt b1 0),(6,Pt b2 0),(8,Pt b12 0),(10,v18),(68,vl),(69,J l.length),(70,J k)]) (fun k vs=>k≤l.length∧vs.length=n_) 0 (List.replicate n_ (Value.slice none 0 0)) ?_ ?_
 ·exact⟨Nat.zero_le _,by simp⟩
 rintro k vs ⟨hk,hvl_⟩
 refine K6 (fun hgood1=>?_)
 have hcl_:vs.length=bs.length:=(by omega)
 refine q' 2 r'<|c' (X.lss r' r') (fun h33=>?_) fun h33=>?_
 ·refine v' 10 r'<|x' k hl r' r' fun p34 hp35=>g' hp35 r' fun c36 hc37=>?_
  obtain rfl:=hc37
  refine n' zeroValue102 r' fun b38=>w' 0 r' r' r'<|v' 3 r' ?_
  have htk_:=htr_ k (by omega)
  refine q' 1 r'<|have hp39:=Y7 hp5;f' r' t'<|i' hp39 r' ?_
  rw[hn_]
  refine G2 (A5M n_ (a:=(⟨Value.slice none 0 0,rfl⟩:RawV)) C6W rfl rfl rfl (by omega) (by decide)) (by decide) (fun v40=>?_)
  rw[B3L]
  refine A1U (T.alloc zeroValue187 rfl) (by decide) fun b41=>?_
  refine F7 (k:=1) rfl (fun ho42=>?_)
  refine I2 (T.storeB (k:=0) sizeOf187 rfl rfl rfl ho42 (Nat.le_of_ble_eq_true rfl))<|v' 4 r'<|B5s Span 23 n_ ?_
  have he43:((List.replicate n_ ([]:List Span)))=(E8 n_ (fun j=>S4 p (gt l k) j 0)):=B0P n_
  rw[he43]
  refine q' 1 r'<|g' hp16 r' fun c44 hc45=>?_
  obtain rfl:=hc45
  refine WL.y (A9n (k:=3) isAgg102 sizeOf102 rfl rfl rfl) ?_
  refine D1 (T.call call75 rfl (C6A _ (f:=p) (t:=gt l k) hf_ htk_)) (by decide) (fun m46 _ hle47 hR_=>?_)
  obtain⟨lb48,rfl,hit49⟩:=hR_
  refine have hp5:=hp5.mono hle47;have hp16:=hp16.mono hle47;v' 3 r'<|WK.p [2] ?_
  refine A0L (S:=List Value×List (List Span)) (G:=Nat) (ps:=[80,81]) (n:=P1 p (gt l k)) (A:=B2p p (gt l k)) rfl call143 hit49 (fun x_:List Value×List (List Span)=>[row (v40) 184 1 (n_) (x_.1),M2 (J6 23 x_.1 x_.2),blk b41 187 [v40],blk b38 102 [J ((gt l k).X),J ((gt l k).Y),J ((gt l k).Half)],M2 (J6 23 vs (E8 n_ (fun j=>Y4 p l j k))),row (v18) 186 2 (n_) (O0 vs bs),blk b2 104 [S0]]) (fun i _ x_=>x_.1.length=n_∧x_.2=E8 n_ (fun j=>S4 p (gt l k) j i)) (fun _ _ _ _=>False) ((List.replicate n_ (Value.slice none 0 0)),E8 n_ (fun j=>S4 p (gt l k) j 0)) rfl ⟨by simp,rfl⟩ (fun h=>by cases h) (fun _ _ _ _ _ h=>h) (by simp) (fun i m1 args h=>by rw[show args=_ from h];rfl) (fun b_ args gh=>blk b_ 23 ((args.getD 1 undef).cells.toList)::(fun x_:List Value×List (List Span)=>[row (v40) 184 1 (n_) (x_.1),M2 (J6 23 x_.1 x_.2),blk b41 187 [v40],blk b38 102 [J ((gt l k).X),J ((gt l k).Y),J ((gt l k).Half)],M2 (J6 23 vs (E8 n_ (fun j=>Y4 p l j k))),row (v18) 186 2 (n_) (O0 vs bs),blk b2 104 [S0]]) gh) (fun b_ args=>(16,args.headD undef)::(17,Pt b_ 0)::[(3,Pt b1 0),(6,Pt b2 0),(8,Pt b12 0),(10,v18),(68,vl),(69,J l.length),(70,J k),(71,.bool true),(72,.pointer (some (p34))),(73,.agg [J ((gt l k).X),J ((gt l k).Y),J ((gt l k).Half)].toArray),(14,Pt b38 0),(74,.pointer (some (((⟨b1,0,none⟩:Addr)).add 5))),(75,J n_),(76,v40),(15,Pt b41 0),(77,.agg [J p.Pitch,J p.Height,J p.Radius,J p.Low,J p.High,J p.Columns,J p.Along.Lo,J p.Along.Hi,J p.Across.Lo,J p.Across.Hi].toArray),(78,.agg [J ((gt l k).X),J ((gt l k).Y),J ((gt l k).Half)].toArray),(79,.func (.func 143) #[] lb48.toArray)]) ?_ ?_ ?_ ?_ ?_
  ·intro lo B1 i m1_3 gh args KK hlen hA1 hm1_3 hKK
   have hA2:args=[J (yK p (gt l k) i),.agg [J (Y1 p (gt l k) i).Lo,J (Y1 p (gt l k) i).Hi].toArray]:=(by have:=congrArg Array.toList (show args.toArray=#[J (yK p (gt l k) i),.agg [J (Y1 p (gt l k) i).Lo,J (Y1 p (gt l k) i).Hi].toArray]from hA1);simpa using this)
   subst hA2
   refine qb ?_
   exact q' 6 r'<|n' zeroValue23 r' fun b50=>w' 0 r' r' r'<|v' 2 r'<|R0 (.cons rfl (.cons rfl (.cons rfl (.cons rfl (.cons rfl (.cons rfl (.cons rfl (.cons rfl (.cons rfl (.cons rfl (.cons rfl (.cons rfl (.cons rfl (.cons rfl (.cons rfl (.cons rfl (.cons rfl (.cons rfl (.cons rfl (.cons rfl .nil)))))))))))))))))))) (hKK b50)
  ·intro lo B1 i m1_3 gh args b_ hlen hi hm1_3 hA1 hI1
   have hA2:args=[J (yK p (gt l k) i),.agg [J (Y1 p (gt l k) i).Lo,J (Y1 p (gt l k) i).Hi].toArray]:=(by have:=congrArg Array.toList (show args.toArray=#[J (yK p (gt l k) i),.agg [J (Y1 p (gt l k) i).Lo,J (Y1 p (gt l k) i).Hi].toArray]from hA1);simpa using this)
   subst hA2
   obtain⟨us,M_⟩:=gh
   obtain⟨hul_,hM_⟩:=hI1
   dsimp only at hul_ hM_
   subst hM_
   have hly_:0≤yK p (gt l k) i∧yK p (gt l k) i≤p.Height:=B8H hf_ htk_ hi
   have hlb_:(-1000000000000≤(Y1 p (gt l k) i).Lo∧(Y1 p (gt l k) i).Lo≤1000000000000)∧(-1000000000000≤(Y1 p (gt l k) i).Hi∧(Y1 p (gt l k) i).Hi≤1000000000000):=C4a hf_ htk_ hly_
   replace hp5:=hp5.mono hm1_3
   replace hp16:=hp16.mono hm1_3
   show WK _ _ m1_3 [blk b_ 23 [J ((Y1 p (gt l k) i).Lo),J ((Y1 p (gt l k) i).Hi)],row (v40) 184 1 (n_) (us),M2 (J6 23 us (E8 n_ (fun j=>S4 p (gt l k) j i))),blk b41 187 [v40],blk b38 102 [J ((gt l k).X),J ((gt l k).Y),J ((gt l k).Half)],M2 (J6 23 vs (E8 n_ (fun j=>Y4 p l j k))),row (v18) 186 2 (n_) (O0 vs bs),blk b2 104 [S0]] [(16,J (yK p (gt l k) i)),(17,Pt b_ 0),(3,Pt b1 0),(6,Pt b2 0),(8,Pt b12 0),(10,v18),(68,vl),(69,J l.length),(70,J k),(71,.bool true),(72,.pointer (some (p34))),(73,.agg [J ((gt l k).X),J ((gt l k).Y),J ((gt l k).Half)].toArray),(14,Pt b38 0),(74,.pointer (some (((⟨b1,0,none⟩:Addr)).add 5))),(75,J n_),(76,v40),(15,Pt b41 0),(77,.agg [J p.Pitch,J p.Height,J p.Radius,J p.Low,J p.High,J p.Columns,J p.Along.Lo,J p.Along.Hi,J p.Across.Lo,J p.Across.Hi].toArray),(78,.agg [J ((gt l k).X),J ((gt l k).Y),J ((gt l k).Half)].toArray),(79,.func (.func 143) #[] lb48.toArray)] _
   refine qb ?_
   refine q' 3 r'<|f' r' t'<|b' 0 r' r' r'<|y' (A7b rfl rfl)<|v' 4 r' ?_
   obtain⟨c0_,hc0_⟩:∃qq__:Nat,(max ((Y1 p (gt l k) i).Lo) 0:Int)=(qq__:Int):=⟨(max ((Y1 p (gt l k) i).Lo) 0:Int).toNat,(by omega)⟩
   rw[hc0_]
   have he51:(E8 n_ (fun j=>S4 p (gt l k) j i))=(A1m p (gt l k) n_ i c0_):=B6T (by omega)
   rw[he51]
   refine O6 (fun(c:Nat) (us:List Value)=>n_-c) (fun c us=>[blk b_ 23 [J ((Y1 p (gt l k) i).Lo),J ((Y1 p (gt l k) i).Hi)],row (v40) 184 1 (n_) (us),M2 (J6 23 us (A1m p (gt l k) n_ i c)),blk b41 187 [v40],blk b38 102 [J ((gt l k).X),J ((gt l k).Y),J ((gt l k).Half)],M2 (J6 23 vs (E8 n_ (fun j=>Y4 p l j k))),row (v18) 186 2 (n_) (O0 vs bs),blk b2 104 [S0]]) (fun c us=>[(3,Pt b1 0),(6,Pt b2 0),(8,Pt b12 0),(10,v18),(15,Pt b41 0),(16,J (yK p (gt l k) i)),(17,Pt b_ 0),(18,J c),(68,vl),(69,J l.length),(70,J k)]) (fun c us=>c0_≤c∧us.length=n_) c0_ us ?_ ?_
   ·exact⟨Nat.le_refl _,hul_⟩
   rintro c us ⟨hc0_,hul2_⟩
   refine K6 (fun hgood2=>?_)
   refine q' 4 r'<|f' r' t'<|b' 0 r' r' r'<|have hp53:=Y7 hp5;f' r' t'<|i' hp53 r'<|v' 1 r'<|y' (B0Q rfl rfl)<|c' (X.leq r' r') (fun h54=>?_) fun h54=>?_
   ·refine v' 7 r' ?_
    have hcn_:c<n_:=(by omega)
    have hrp_:=B2o hf_ htk_ (c:Int) (k:=i) (by omega)
    refine B3B (k:=2) (i:=c) r' (by rw[A6l];omega) (by rw[A6l];omega)<|B4 7 [6] [6]<|Y' r' r' (A.b 4 r' r' r')<|U' 1 r'<|Y' r' r' (B0 2 c)<|G' hp16 r' r' r' fun c55 hc56=>?_
    obtain rfl:=hc56
    refine U' 1 r'<|Y' r' r' (X.call call77 rfl (C4j _ _ p rfl _ hf_ hly_)) ?_
    refine A1T rfl rfl rfl rfl (I3 [2,0] call76 r' (C4U _ (xs:=us) (off:=c*1) (L:=gt (A1m p (gt l k) n_ i c) c) (by rw[Nat.mul_one];exact A0W (by omega)) (by rw[B5r hcn_];exact hrp_.bd) (by rw[B5r hcn_];have:=hrp_.len;omega) (B3i hf_ hly_))) (by decide) (fun m57 Es_ u_ hle58 hR_=>?_)
    obtain⟨rfl,v59,he60,ho61⟩:=hR_
    rw[Nat.mul_one]at he60
    subst he60
    refine have hp5:=hp5.mono hle58;V' 2 r'<|WK.p [1]<|B5L (k:=2) (i:=c) (vs:=us) (M:=A1m p (gt l k) n_ i c) r' (by rw[A6l];omega) (by rw[A6l];omega) ?_
    have he62:((A1m p (gt l k) n_ i c).set c (A0E (gt (A1m p (gt l k) n_ i c) c) ⟨Q6 p ((yK p (gt l k) i)),Q6 p ((yK p (gt l k) i))⟩))=(A1m p (gt l k) n_ i (c+1)):=B8g (by omega) (by omega) hcn_
    rw[he62]
    exact q' 6 r'<|E5 hgood2 hle58<|WK.p [1]<|J7 (c+1) (us.set c v59)<|⟨by omega,by rw[List.length_set];exact hul2_⟩
   refine v' 8 r' ?_
   have he63:(A1m p (gt l k) n_ i c)=(E8 n_ (fun j=>S4 p (gt l k) j (i+1))):=C1Y (fun j hj hc=>by omega)
   rw[he63]
   exact A1o (us,E8 n_ (fun j=>S4 p (gt l k) j (i+1))) (Mem.le_refl _) (.cons _ (.refl _)) ⟨by simpa using hul2_,rfl⟩
  ·intro m1_3 gh hm1_3 hI1
   obtain⟨us,M_⟩:=gh
   obtain⟨hul_,hM_⟩:=hI1
   dsimp only at hul_ hM_
   subst hM_
   refine have hp5:=hp5.mono hm1_3;R0 (σ':=[(3,Pt b1 0),(6,Pt b2 0),(8,Pt b12 0),(10,v18),(68,vl),(69,J l.length),(70,J k),(71,.bool true),(72,.pointer (some (p34))),(73,.agg [J ((gt l k).X),J ((gt l k).Y),J ((gt l k).Half)].toArray),(14,Pt b38 0),(74,.pointer (some (((⟨b1,0,none⟩:Addr)).add 5))),(75,J n_),(76,v40),(15,Pt b41 0),(77,.agg [J p.Pitch,J p.Height,J p.Radius,J p.Low,J p.High,J p.Columns,J p.Along.Lo,J p.Along.Hi,J p.Across.Lo,J p.Across.Hi].toArray),(78,.agg [J ((gt l k).X),J ((gt l k).Y),J ((gt l k).Half)].toArray),(79,.func (.func 143) #[] lb48.toArray)]) (.cons rfl (.cons rfl (.cons rfl (.cons rfl (.cons rfl (.cons rfl (.cons rfl (.cons rfl (.cons rfl (.cons rfl (.cons rfl (.cons rfl (.cons rfl (.cons rfl (.cons rfl (.cons rfl (.cons rfl (.cons rfl .nil)))))))))))))))))) ?_
   show WK _ _ m1_3 [row (v40) 184 1 (n_) (us),M2 (J6 23 us (E8 n_ (fun j=>S4 p (gt l k) j (P1 p (gt l k))))),blk b41 187 [v40],blk b38 102 [J ((gt l k).X),J ((gt l k).Y),J ((gt l k).Half)],M2 (J6 23 vs (E8 n_ (fun j=>Y4 p l j k))),row (v18) 186 2 (n_) (O0 vs bs),blk b2 104 [S0]] [(3,Pt b1 0),(6,Pt b2 0),(8,Pt b12 0),(10,v18),(68,vl),(69,J l.length),(70,J k),(71,.bool true),(72,.pointer (some (p34))),(73,.agg [J ((gt l k).X),J ((gt l k).Y),J ((gt l k).Half)].toArray),(14,Pt b38 0),(74,.pointer (some (((⟨b1,0,none⟩:Addr)).add 5))),(75,J n_),(76,v40),(15,Pt b41 0),(77,.agg [J p.Pitch,J p.Height,J p.Radius,J p.Low,J p.High,J p.Columns,J p.Along.Lo,J p.Along.Hi,J p.Across.Lo,J p.Across.Hi].toArray),(78,.agg [J ((gt l k).X),J ((gt l k).Y),J ((gt l k).Half)].toArray),(79,.func (.func 143) #[] lb48.toArray)] _
   refine A0v<|L9<|q' 1 r' ?_
   refine B6f (α:=Span) (k:=0) (M:=E8 n_ (fun j=>S4 p (gt l k) j (P1 p (gt l k)))) rfl rfl (C4 _ _).symm (by rw[C4];exact hul_) (B8y hf_ htk_) (by rw[C4];unfold C8;omega) (fun m64 hle65 hs66=>?_)
   replace hp5:=hp5.mono hle65
   have hol_:(E8 n_ (fun j=>S4 p (gt l k) j (P1 p (gt l k)))).length=n_:=C4 _ _
   refine q' 2 r'<|y' (A2j (k:=3) runUnderlying182 rfl rfl)<|v' 4 r' ?_
   have he67:(E8 n_ (fun j=>Y4 p l j k))=(A1G p l n_ k 0):=B8U p l n_ k
   rw[he67]
   refine O6 (fun(q:Nat) (vs:List Value)=>n_-q) (fun q vs=>[blk b41 187 [v40],blk b38 102 [J ((gt l k).X),J ((gt l k).Y),J ((gt l k).Half)],M2 (J6 23 vs (A1G p l n_ k q)),row (v18) 186 2 (n_) (O0 vs bs),blk b2 104 [S0]]) (fun q vs=>[(3,Pt b1 0),(6,Pt b2 0),(8,Pt b12 0),(10,v18),(15,Pt b41 0),(68,vl),(69,J l.length),(70,J k),(103,J n_),(104,J q)]) (fun q vs=>q≤n_∧vs.length=n_) 0 vs ?_ ?_
   ·exact⟨Nat.zero_le _,hvl_⟩
   rintro q vs ⟨hq,hvl_⟩
   refine K6 (fun hgood3=>?_)
   have hcl_:vs.length=bs.length:=(by omega)
   refine q' 2 r'<|c' (X.lss r' r') (fun h69=>?_) fun h69=>?_
   ·refine v' 14 r' ?_
    have hqn_:q<n_:=(by omega)
    have hap_:=B7k hf_ htr_ (q:Int) k (by omega)
    refine have hrp_:=B2o hf_ htk_ (q:Int) (Nat.le_refl _);B3B (k:=2) (i:=q) r' (by rw[A6K];omega) (by rw[A6K];omega)<|B4 10 [9] [9]<|U' 2 r'<|Y' r' r' (B0 4 q)<|Y' r' r' (A.f r')<|Y' r' r' (A.b 1 r' r' r')<|U' 1 r'<|X' q hs66 r' r' r' r' fun p70 hp71=>have hp72:=At.zero hp71;Y' r' r' (A.f r')<|S' hp72 r' r' r' fun v73 hs74=>?_
    have hl75:=hs74.le
    refine A1T rfl rfl rfl rfl (I3 [4,0] call78 r' (C7a _ (xs:=O0 vs bs) (off:=q*2) (L:=gt (A1G p l n_ k q) q) (B4s hcl_ (by omega)) (by rw[B5x hqn_];exact hap_) hs74 (by rw[V4 _ hqn_];exact hrp_))) (by decide) (fun m76 Es_ u_ hle77 hR_=>?_)
    obtain⟨rfl,v78,he79,ho80⟩:=hR_
    rw[B3k _ hcl_]at he79
    subst he79
    refine have hp5:=hp5.mono hle77;V' 2 r'<|WK.p [1]<|B5L (k:=3) (i:=q) (vs:=vs) (M:=A1G p l n_ k q) r' (by rw[A6K];omega) (by rw[A6K];omega) ?_
    have he81:((A1G p l n_ k q).set q (Z8 ((gt (A1G p l n_ k q) q)++(gt (E8 n_ (fun j=>S4 p (gt l k) j (P1 p (gt l k)))) q))))=(A1G p l n_ k (q+1)):=B7V hqn_ (V4 _ hqn_)
    rw[he81]
    exact q' 5 r'<|E5 hgood3 hle77<|WK.p [1,1,1]<|J7 (q+1) (vs.set q v78)<|⟨by omega,by rw[List.length_set];exact hvl_⟩
   refine v' 15 r' ?_
   have hqn2_:q=n_:=(by omega)
   have he82:(A1G p l n_ k q)=(E8 n_ (fun j=>Y4 p l j (k+1))):=(by rw[hqn2_];exact B9Z p l n_ k)
   rw[he82]
   exact E5 hgood1 (Mem.le_trans hle47 (Mem.le_trans hm1_3 hle65))<|J7 (k+1) vs<|⟨by omega,by assumption⟩
  ·intro i m1 gh hm1 hi hI1
   exact hI1.elim
  intro id i m1 gh hm1 hi hI1
  exact hI1.elim
 refine v' 11 r'<|have hp83:=Y7 hp5;f' r' t'<|i' hp83 r' ?_
 rw[hn_]
 refine G2 (A5M n_ (a:=(⟨Value.slice none 0 0,rfl⟩:RawV)) C2t rfl rfl rfl (by omega) (by decide)) (by decide) (fun v84=>?_)
 rw[B3L]
 refine F7 (k:=0) rfl (fun ho85=>?_)
 refine WL.y (V:=Value.agg [v84].toArray) (X.build zeroValue104 runUnderlying104 (A3t _ underlying104) rfl (by simp only[Instr.fill,F4 ho85];rfl)) ?_
 refine n' zeroValue104 r' fun b86=>w' 0 r' r' r'<|v' 4 r' ?_
 have hkl_:k=l.length:=(by omega)
 have he87:(E8 n_ (fun j=>Y4 p l j k))=(E8 n_ (fun j=>Y4 p l j l.length)):=(by rw[hkl_])
 rw[he87]
 refine B3p (k:=2) rfl rfl (by rw[C4];exact hvl_) (B7U hf_ htr_) (fun m88 hle89 hfam_=>?_)
 have hws0_:RdL m88 (List.replicate n_ (Value.slice none 0 0)) (A3L p l blots n_ 0):=(by rw[←B9z];exact C1c _ _)
 refine q' 2 r'<|y' (A2j (k:=2) runUnderlying182 rfl rfl)<|v' 4 r' ?_
 refine O6 (fun(q:Nat) (ws:List Value)=>n_-q) (fun q ws=>[blk b86 104 [v84],row (v84) 28 1 (n_) (ws),row (v18) 186 2 (n_) (O0 vs bs),blk b2 104 [S0]]) (fun q ws=>[(6,Pt b2 0),(20,Pt b86 0),(123,v18),(124,J n_),(125,J q)]) (fun q ws=>q≤n_∧RdL m88 ws (A3L p l blots n_ q)∧∀j:Nat,j<q→(A5w p l blots j).length≤8) 0 (List.replicate n_ (Value.slice none 0 0)) ?_ ?_
 ·exact⟨Nat.zero_le _,hws0_,fun j hj=>absurd hj (Nat.not_lt_zero _)⟩
 rintro q ws ⟨hq,hws_,hin_⟩
 have hwl_:ws.length=n_:=(by have h_:=hws_.1;rw[A5U]at h_;exact h_.trans (Nat.mul_one _))
 refine q' 2 r'<|c' (X.lss r' r') (fun h91=>?_) fun h91=>?_
 ·refine v' 11 r'<|y' (B0 2 q) ?_
  have hs92:Sl m88 (gt vs q) (Y4 p l q l.length):=(by have h_:=hfam_ q (by rw[C4];omega);rwa [V4 _ (by omega)]at h_)
  refine WL.y (V:=.agg [gt vs q,.bool (gt bs q)].toArray) (A4d (k:=2) (us:=[gt vs q,.bool (gt bs q)]) isAgg186 sizeOf186 rfl rfl rfl (C5D (B4s (by omega) (by omega)) (B8p (by omega) (by omega)))) ?_
  refine n' zeroValue186 r' fun b93=>v' 1 r'<|w' 0 r' r' r'<|v' 6 r'<|f' r' t' ?_
  refine K2 (A7T (k:=0) isAgg4 rfl rfl rfl) (by decide) (fun h94=>?_) (fun h94=>?_)
  ·have hyb_:(q:Int)∈blots:=(by have h_:=h94;rw[hbs_,B8I (by omega)]at h_;exact of_decide_eq_true h_)
   refine v' 14 r' ?_
   have hstep_:RdL m88 ws (A3L p l blots n_ (q+1)):=(by rw[←B9g (B4d hyb_)];exact hws_)
   exact J7 (q+1) ws<|B2J
  have hnb_:¬(q:Int)∈blots:=(by have h_:=h94;rw[hbs_,B8I (by omega)]at h_;exact of_decide_eq_false h_)
  refine v' 6 r'<|f' r' t'<|f' r' t'<|b' 0 r' r' r'<|l' hs92 r'<|c' (X.gtr r' r') (fun h95=>?_) fun h95=>?_
  ·refine v' 6 r'<|WL.x (V:=Value.agg [S0].toArray) (X.build zeroValue104 runUnderlying104 (A3t _ underlying104) rfl rfl) (by decide) ?_
   exact w' 4 r' r' r'<|v' 11 r'<|F2 4 r' r' r' r' isAgg104 sizeOf104<|C5<|A6g
  refine v' 8 r'<|f' r' t'<|b' 1 r' r' r'<|v' 1 r'<|f' r' t'<|f' r' t'<|b' 0 r' r' r'<|y' (B0 2 q)<|I2 (A2e (off:=q*1) (k:=2) sizeOf28 rfl rfl rfl hs92.one (by omega))<|v' 8 r' ?_
  have he96:(ws.set (q*1) (gt vs q))=(ws.set q (gt vs q)):=(by rw[Nat.mul_one])
  rw[he96]
  have hstep_:RdL m88 (ws.set q (gt vs q)) (A3L p l blots n_ (q+1)):=(by have h_:=C2u hws_ hs92 (i:=q) (by rw[A5U];omega);rwa [B7J (A7X hnb_).symm]at h_)
  exact J7 (q+1) (ws.set q (gt vs q))<|B2J
 refine v' 10 r' ?_
 have hqn_:q=n_:=(by omega)
 rw[hqn_]at hws_ hin_
 have hrow_:row v84 28 1 n_ ws=row v84 28 1 (A3L p l blots n_ n_).length ws:=(by rw[A5U])
 rw[hrow_]
 have hib_:B0X p l blots:=(fun c hc=>hin_ c (by omega))
 refine q' 1 r'<|a' 0 r' r'<|w' 3 r' r' r'<|v' 4 r' ?_
 refine N4 1 rfl rfl hws_ (by rw[A5U];unfold C8;omega) (fun m97 hle98 hs99=>?_)
 refine F2 2 rfl rfl rfl rfl isAgg104 sizeOf104<|C5 ?_
 have hie_:=C3I (show¬A0z p l≠0 by omega) hbp_ hib_
 have hon_:=C1x p l blots n_
 have hcn_:p.Columns.toNat=n_:=(by omega)
 exact⟨_,F8 rfl (A8 hie_.symm),by rw[B5a hie_,hcn_,←hon_];exact⟨_,rfl,hs99⟩⟩
end Go.Proofs.T10
