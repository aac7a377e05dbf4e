import Derived.Test.YtooomcigmleneaaGreatKxW
import Derived.Test.YtooomcigmleneaaGreatKyP
import Derived.Test.YtooomcigmleneaaGreatT10Ty
import Derived.Test.YtooomcigmleneaaGreatKxU
import Derived.Test.YtooomcigmleneaaGreatT10Set
import Derived.Test.YtooomcigmleneaaGreatT10W
import Derived.Test.YtooomcigmleneaaGreatT10Ink2
set_option linter.all false
set_option maxHeartbeats 1000000
namespace Go.Proofs.T10
open Tryz
set_option maxRecDepth 20000
open Go Go.Kx
theorem A0c(m:Mem)(n:Int)(lo:Int)(hi:Int):Exact prog 74 #[J n,J lo,J hi] m (.bool (decide (lo≤n∧n≤hi))):=by
 refine C6 func74 r' ntmps74 fun wld=>q' 9 r'<|c' (X.geq r' r') (fun h1=>?_) fun h1=>?_
 ·refine v' 12 r'<|A0 r' r'<|A7 ?_
  first|exact C7 (by omega)|exact A9 (by omega)|exact D5 (by omega)
 refine v' 9 r'<|A0 r' r'<|A7 ?_
 first|exact C7 (by omega)|exact A9 (by omega)|exact D5 (by omega)
theorem A3P(m:Mem)(cs:List Value)(s:Span)(hs:Enc.rd m cs s):Exact prog 221 #[.agg cs.toArray] m (.bool (decide (A1Z s))):=by
 obtain rfl:=hs
 refine C6 func221 r' ntmps221 fun wld=>q' 2 r'<|o' r' r' fun b1=>v' 5 r'<|f' r' t'<|b' 0 r' r' r'<|f' r' t'<|b' 0 r' r' r'<|c' (X.call call74 rfl (A0c _ _ _ _)) (fun h2=>?_) fun h2=>?_
 ·refine v' 2 r'<|f' r' t'<|v' 1 r'<|b' 0 r' r' r'<|v' 7 r'<|A0 r' r'<|A7 ?_
  first|exact C7 (by unfold A1Z;omega)|exact A9 (by unfold A1Z;omega)|exact D5 (by unfold A1Z;omega)
 refine v' 9 r'<|A0 r' r'<|A7 ?_
 first|exact C7 (by unfold A1Z;omega)|exact A9 (by unfold A1Z;omega)|exact D5 (by unfold A1Z;omega)
theorem D3{G:Prop}(h:G:=by first|exact A8 (B7J (by unfold I4;first|omega|(rintro⟨h1_,h2_,h3_,h4_,h5_⟩;first|omega|contradiction))).symm|exact A8 (B6a ⟨by omega,by omega,by omega,by assumption,by assumption⟩).symm):G:=h
theorem A8s(m:Mem)(cp:List Value)(p:Paper)(hp:Enc.rd m cp p):Exact prog 141 #[.agg cp.toArray] m (J (A0X p)):=by
 obtain rfl:=hp
 refine C6 func141 r' ntmps141 fun wld=>q' 2 r'<|o' r' r' fun b1=>v' 5 r'<|f' r' t'<|b' 0 r' r' r'<|c' (X.call call74 rfl (A0c _ _ _ _)) (fun h2=>?_) fun h2=>?_
 ·refine v' 2 r'<|f' r' t'<|v' 1 r'<|b' 0 r' r' r'<|v' 1 r'<|c' (X.call call74 rfl (A0c _ _ _ _)) (fun h3=>?_) fun h3=>?_
  ·refine v' 3 r'<|f' r' t'<|v' 1 r'<|b' 0 r' r' r'<|v' 1 r'<|c' (X.eql r' r') (fun h4=>?_) fun h4=>?_
   ·refine v' 15 r'<|f' r' t'<|b' 0 r' r' r'<|c' (X.geq r' r') (fun h5=>?_) fun h5=>?_
    ·refine v' 2 r'<|f' r' t'<|v' 1 r'<|b' 0 r' r' r'<|v' 1 r'<|f' r' t'<|v' 1 r'<|b' 0 r' r' r'<|v' 1 r'<|c' (X.lss r' r') (fun h6=>?_) fun h6=>?_
     ·refine v' 3 r'<|f' r' t'<|v' 1 r'<|b' 0 r' r' r'<|v' 1 r'<|c' (X.leq r' r') (fun h7=>?_) fun h7=>?_
      ·refine v' 3 r'<|f' r' t'<|v' 1 r'<|b' 0 r' r' r'<|v' 1 r'<|f' r' t'<|v' 1 r'<|b' 0 r' r' r'<|v' 3 r'<|f' r' t'<|v' 1 r'<|b' 0 r' r' r'<|v' 1 r'<|c' (X.leq r' r') (fun h8=>?_) fun h8=>?_
       ·refine v' 17 r'<|f' r' t'<|v' 1 r'<|b' 0 r' r' r'<|v' 1 r'<|c' (X.call call74 rfl (A0c _ _ _ _)) (fun h9=>?_) fun h9=>?_
        ·refine v' 5 r'<|f' r' t'<|v' 1 r'<|y' (I9 (k:=0) (vs:=[J p.Along.Lo,J p.Along.Hi]) isAgg23 sizeOf23 rfl rfl rfl rfl)<|v' 1 r'<|c' (X.call call221 rfl (A3P _ _ p.Along rfl)) (fun h10=>?_) fun h10=>?_
         ·refine v' 5 r'<|f' r' t'<|v' 1 r'<|y' (I9 (k:=0) (vs:=[J p.Across.Lo,J p.Across.Hi]) isAgg23 sizeOf23 rfl rfl rfl rfl)<|v' 1 r'<|c' (X.call call221 rfl (A3P _ _ p.Across rfl)) (fun h11=>?_) fun h11=>?_
          ·exact v' 14 r'<|A0 r' r'<|A7<|D3
          exact v' 13 r'<|A0 r' r'<|A7<|D3
         exact v' 19 r'<|A0 r' r'<|A7<|D3
        exact v' 25 r'<|A0 r' r'<|A7<|D3
       exact v' 43 r'<|A0 r' r'<|A7<|D3
      exact v' 53 r'<|A0 r' r'<|A7<|D3
     exact v' 58 r'<|A0 r' r'<|A7<|D3
    exact v' 64 r'<|A0 r' r'<|A7<|D3
   refine v' 3 r'<|f' r' t'<|v' 1 r'<|b' 0 r' r' r'<|v' 1 r'<|f' r' t'<|v' 1 r'<|b' 0 r' r' r'<|v' 1 r'<|c' (X.call call74 rfl (A0c _ _ _ _)) (fun h12=>?_) fun h12=>?_
   ·refine v' 8 r'<|f' r' t'<|b' 0 r' r' r'<|c' (X.geq r' r') (fun h13=>?_) fun h13=>?_
    ·refine v' 2 r'<|f' r' t'<|v' 1 r'<|b' 0 r' r' r'<|v' 1 r'<|f' r' t'<|v' 1 r'<|b' 0 r' r' r'<|v' 1 r'<|c' (X.lss r' r') (fun h14=>?_) fun h14=>?_
     ·refine v' 3 r'<|f' r' t'<|v' 1 r'<|b' 0 r' r' r'<|v' 1 r'<|c' (X.leq r' r') (fun h15=>?_) fun h15=>?_
      ·refine v' 3 r'<|f' r' t'<|v' 1 r'<|b' 0 r' r' r'<|v' 1 r'<|f' r' t'<|v' 1 r'<|b' 0 r' r' r'<|v' 3 r'<|f' r' t'<|v' 1 r'<|b' 0 r' r' r'<|v' 1 r'<|c' (X.leq r' r') (fun h16=>?_) fun h16=>?_
       ·refine v' 17 r'<|f' r' t'<|v' 1 r'<|b' 0 r' r' r'<|v' 1 r'<|c' (X.call call74 rfl (A0c _ _ _ _)) (fun h17=>?_) fun h17=>?_
        ·refine v' 5 r'<|f' r' t'<|v' 1 r'<|y' (I9 (k:=0) (vs:=[J p.Along.Lo,J p.Along.Hi]) isAgg23 sizeOf23 rfl rfl rfl rfl)<|v' 1 r'<|c' (X.call call221 rfl (A3P _ _ p.Along rfl)) (fun h18=>?_) fun h18=>?_
         ·refine v' 5 r'<|f' r' t'<|v' 1 r'<|y' (I9 (k:=0) (vs:=[J p.Across.Lo,J p.Across.Hi]) isAgg23 sizeOf23 rfl rfl rfl rfl)<|v' 1 r'<|c' (X.call call221 rfl (A3P _ _ p.Across rfl)) (fun h19=>?_) fun h19=>?_
          ·exact v' 14 r'<|A0 r' r'<|A7<|D3
          exact v' 13 r'<|A0 r' r'<|A7<|D3
         exact v' 19 r'<|A0 r' r'<|A7<|D3
        exact v' 25 r'<|A0 r' r'<|A7<|D3
       exact v' 43 r'<|A0 r' r'<|A7<|D3
      exact v' 53 r'<|A0 r' r'<|A7<|D3
     exact v' 58 r'<|A0 r' r'<|A7<|D3
    exact v' 64 r'<|A0 r' r'<|A7<|D3
   refine v' 8 r'<|f' r' t'<|b' 0 r' r' r'<|c' (X.geq r' r') (fun h20=>?_) fun h20=>?_
   ·refine v' 2 r'<|f' r' t'<|v' 1 r'<|b' 0 r' r' r'<|v' 1 r'<|f' r' t'<|v' 1 r'<|b' 0 r' r' r'<|v' 1 r'<|c' (X.lss r' r') (fun h21=>?_) fun h21=>?_
    ·refine v' 3 r'<|f' r' t'<|v' 1 r'<|b' 0 r' r' r'<|v' 1 r'<|c' (X.leq r' r') (fun h22=>?_) fun h22=>?_
     ·refine v' 3 r'<|f' r' t'<|v' 1 r'<|b' 0 r' r' r'<|v' 1 r'<|f' r' t'<|v' 1 r'<|b' 0 r' r' r'<|v' 3 r'<|f' r' t'<|v' 1 r'<|b' 0 r' r' r'<|v' 1 r'<|c' (X.leq r' r') (fun h23=>?_) fun h23=>?_
      ·exact v' 41 r'<|A0 r' r'<|A7<|D3
      exact v' 41 r'<|A0 r' r'<|A7<|D3
     exact v' 51 r'<|A0 r' r'<|A7<|D3
    exact v' 56 r'<|A0 r' r'<|A7<|D3
   exact v' 62 r'<|A0 r' r'<|A7<|D3
  refine v' 18 r'<|f' r' t'<|b' 0 r' r' r'<|c' (X.geq r' r') (fun h24=>?_) fun h24=>?_
  ·refine v' 2 r'<|f' r' t'<|v' 1 r'<|b' 0 r' r' r'<|v' 1 r'<|f' r' t'<|v' 1 r'<|b' 0 r' r' r'<|v' 1 r'<|c' (X.lss r' r') (fun h25=>?_) fun h25=>?_
   ·refine v' 3 r'<|f' r' t'<|v' 1 r'<|b' 0 r' r' r'<|v' 1 r'<|c' (X.leq r' r') (fun h26=>?_) fun h26=>?_
    ·refine v' 3 r'<|f' r' t'<|v' 1 r'<|b' 0 r' r' r'<|v' 1 r'<|f' r' t'<|v' 1 r'<|b' 0 r' r' r'<|v' 3 r'<|f' r' t'<|v' 1 r'<|b' 0 r' r' r'<|v' 1 r'<|c' (X.leq r' r') (fun h27=>?_) fun h27=>?_
     ·exact v' 41 r'<|A0 r' r'<|A7<|D3
     exact v' 41 r'<|A0 r' r'<|A7<|D3
    exact v' 51 r'<|A0 r' r'<|A7<|D3
   exact v' 56 r'<|A0 r' r'<|A7<|D3
  exact v' 62 r'<|A0 r' r'<|A7<|D3
 refine v' 22 r'<|f' r' t'<|b' 0 r' r' r'<|c' (X.geq r' r') (fun h28=>?_) fun h28=>?_
 ·refine v' 2 r'<|f' r' t'<|v' 1 r'<|b' 0 r' r' r'<|v' 1 r'<|f' r' t'<|v' 1 r'<|b' 0 r' r' r'<|v' 1 r'<|c' (X.lss r' r') (fun h29=>?_) fun h29=>?_
  ·refine v' 3 r'<|f' r' t'<|v' 1 r'<|b' 0 r' r' r'<|v' 1 r'<|c' (X.leq r' r') (fun h30=>?_) fun h30=>?_
   ·refine v' 3 r'<|f' r' t'<|v' 1 r'<|b' 0 r' r' r'<|v' 1 r'<|f' r' t'<|v' 1 r'<|b' 0 r' r' r'<|v' 3 r'<|f' r' t'<|v' 1 r'<|b' 0 r' r' r'<|v' 1 r'<|c' (X.leq r' r') (fun h31=>?_) fun h31=>?_
    ·exact v' 41 r'<|A0 r' r'<|A7<|D3
    exact v' 41 r'<|A0 r' r'<|A7<|D3
   exact v' 51 r'<|A0 r' r'<|A7<|D3
  exact v' 56 r'<|A0 r' r'<|A7<|D3
 exact v' 62 r'<|A0 r' r'<|A7<|D3
theorem A1z{G:Prop}(h:G:=by first|exact⟨_,F9 (A8 (B5Y (by omega)).symm) rfl⟩|exact⟨_,F9 (A8 (B8p (by omega) (fun h_=>by have h1_:=h_ k (by omega);unfold N3 at h1_;omega)).symm) rfl⟩|exact⟨_,F9 (A8 (B5K (by omega) (fun j hj=>hall j (by omega))).symm) rfl⟩):G:=h
theorem B3m(m:Mem){v:Value}{l:List Point}(hl:Sl m v l):Pure prog 142 #[v] m (fun _ u=>∃i:Int,u= .tuple #[J (A1A l),J i]):=by
 refine have hll:=hl.le;H7 func142 r' ntmps142 fun wld=>q' 10 r'<|l' hl r'<|c' (X.gtr r' r') (fun h1=>?_) fun h1=>?_
 ·exact v' 11 r'<|B6 r' r' r'<|C4<|A1z
 refine v' 9 r'<|l' hl r'<|v' 4 r' ?_
 refine I0 (fun(k:Nat)=>l.length-k) (fun k=>[]) (fun k=>[(9,v),(10,J l.length),(11,J k)]) (fun k=>k≤l.length∧(∀j,j<k→N3 (gt l j))) 0 ?_ ?_
 ·exact⟨Nat.zero_le _,fun j hj=>absurd hj (Nat.not_lt_zero _)⟩
 rintro k ⟨hk,hall⟩
 refine q' 2 r'<|c' (X.lss r' r') (fun h3=>?_) fun h3=>?_
 ·refine v' 11 r'<|x' k hl r' r' fun p4 hp5=>g' hp5 r' fun c6 hc7=>?_
  obtain rfl:=hc7
  refine n' zeroValue102 r' fun b8=>v' 1 r'<|w' 0 r' r' r'<|v' 4 r'<|f' r' t'<|b' 0 r' r' r'<|c' (X.call call74 rfl (A0c _ _ _ _)) (fun h9=>?_) fun h9=>?_
  ·refine v' 3 r'<|f' r' t'<|v' 1 r'<|b' 0 r' r' r'<|v' 1 r'<|c' (X.call call74 rfl (A0c _ _ _ _)) (fun h10=>?_) fun h10=>?_
   ·refine v' 5 r'<|f' r' t'<|v' 1 r'<|b' 0 r' r' r'<|v' 1 r'<|c' (X.call call74 rfl (A0c _ _ _ _)) (fun h11=>?_) fun h11=>?_
    ·exact v' 14 r'<|G4 (k+1)<|⟨by omega,fun j hj=>by rcases Nat.lt_succ_iff_lt_or_eq.1 hj with h|h;exact hall j h;subst h;(unfold N3;omega)⟩
    exact v' 19 r'<|B6 r' r' r'<|C4<|A1z
   exact v' 25 r'<|B6 r' r' r'<|C4<|A1z
  exact v' 29 r'<|B6 r' r' r'<|C4<|A1z
 exact v' 16 r'<|B6 r' r' r'<|C4<|A1z
theorem A6e(m:Mem)(a:Int)(b:Int)(hpa: -1000000000000≤a∧a≤1000000000000)(hpb:0<b):Exact prog 147 #[J a,J b] m (J (a/b)):=by
 refine have hq:=C4u (b:=b) (B:=1000000000000) hpa;C6 func147 r' ntmps147 fun wld=>q' 9 r'<|y' (C4V rfl rfl (by omega) (by omega) (by omega))<|v' 8 r'<|y' (C6q rfl rfl (by omega))<|c' (X.lss r' r') (fun h1=>?_) fun h1=>?_
 ·refine v' 16 r'<|A0 r' r'<|A7 ?_
  first|exact A8 (B1V hpb (by assumption))|exact A8 (B2I (by assumption))
 refine v' 12 r'<|A0 r' r'<|A7 ?_
 first|exact A8 (B1V hpb (by assumption))|exact A8 (B2I (by assumption))
theorem B1w(m:Mem)(n:Int)(half:Int)(cx:List Value)(x:Span)(hx:Enc.rd m cx x)(hn:0≤n∧n≤400000)(hh:0≤half∧half≤5000)(hpx:A1Z x):Exact prog 222 #[J n,J half,.agg cx.toArray] m (.agg [J ((E3 n half x).Lo),J ((E3 n half x).Hi)].toArray):=by
 obtain rfl:=hx
 have hx_:=hpx
 unfold A1Z at hx_
 refine C6 func222 r' ntmps222 fun wld=>q' 2 r'<|o' r' r' fun b1=>n' zeroValue23 r' fun b2=>v' 3 r'<|B4 17 [16] [16]<|U' 3 r'<|Y' r' r' (X.mul rfl rfl (by omega) (by omega))<|Y' r' r' (A.f r')<|Y' r' r' (A.b 1 r' r' r')<|Y' r' r' (X.call call147 rfl (A6e _ _ _ (by omega) (by omega)))<|Y' r' r' (A6Z rfl rfl)<|U' 3 r'<|Y' r' r' (X.mul rfl rfl (by omega) (by omega))<|Y' r' r' (A.f r')<|Y' r' r' (A.b 1 r' r' r')<|Y' r' r' (X.call call147 rfl (A6e _ _ _ (by omega) (by omega)))<|DW.x (V:=Value.agg [J (max 0 ((((n-half)*1000))/x.Hi)),J ((((n+half)*1000))/x.Lo)].toArray) r' r' (X.build zeroValue23 runUnderlying23 (G9 _ underlying23) rfl rfl) (by decide) ?_
 exact W' 0 r' r' r' r' r'<|V' 2 r'<|S5 0 r' r' r' isAgg23 sizeOf23<|A7<|A2m rfl rfl
theorem B9K(m:Mem)(cf:List Value)(f:Paper)(hf:Enc.rd m cf f)(ct:List Value)(t:Point)(ht:Enc.rd m ct t)(hpf:I4 f)(hpt:N3 t):Exact prog 144 #[.agg cf.toArray,.agg ct.toArray] m (.agg [J ((E3 t.X t.Half f.Along).Lo),J ((E3 t.X t.Half f.Along).Hi)].toArray):=by
 obtain rfl:=hf
 obtain rfl:=ht
 have hf_:=hpf
 have hfa_:=hpf.2.2.2.1
 have hfc_:=hpf.2.2.2.2
 have ht_:=hpt
 unfold N3 at ht_
 exact have hf1_:=hpf.1;have hpl1_:=V7 ht_.1 ht_.2.2 hfa_;have hpl2_:=V7 ht_.2.1 ht_.2.2 hfc_;C6 func144 r' ntmps144 fun wld=>q' 2 r'<|o' r' r' fun b1=>o' r' r' fun b2=>n' zeroValue23 r' fun b3=>v' 4 r'<|f' r' t'<|b' 1 r' r' r'<|f' r' t'<|b' 1 r' r' r'<|f' r' t'<|f' r' t'<|y' (I9 (k:=2) (vs:=[J f.Along.Lo,J f.Along.Hi]) isAgg23 sizeOf23 rfl rfl rfl rfl)<|y' (X.call call222 rfl (B1w _ _ _ _ f.Along rfl (by omega) (by omega) (by assumption)))<|w' 0 r' r' r'<|v' 3 r'<|S5 0 r' r' r' isAgg23 sizeOf23<|A7<|A2m rfl rfl
theorem B8I(m:Mem)(cf:List Value)(f:Paper)(hf:Enc.rd m cf f)(ct:List Value)(t:Point)(ht:Enc.rd m ct t)(hpf:I4 f)(hpt:N3 t):Exact prog 223 #[.agg cf.toArray,.agg ct.toArray] m (.agg [J ((E3 t.Y t.Half f.Across).Lo),J ((E3 t.Y t.Half f.Across).Hi)].toArray):=by
 obtain rfl:=hf
 obtain rfl:=ht
 have hf_:=hpf
 have hfa_:=hpf.2.2.2.1
 have hfc_:=hpf.2.2.2.2
 have ht_:=hpt
 unfold N3 at ht_
 exact have hf1_:=hpf.1;have hpl1_:=V7 ht_.1 ht_.2.2 hfa_;have hpl2_:=V7 ht_.2.1 ht_.2.2 hfc_;C6 func223 r' ntmps223 fun wld=>q' 2 r'<|o' r' r' fun b1=>o' r' r' fun b2=>n' zeroValue23 r' fun b3=>v' 4 r'<|f' r' t'<|b' 1 r' r' r'<|f' r' t'<|b' 1 r' r' r'<|f' r' t'<|f' r' t'<|y' (I9 (k:=2) (vs:=[J f.Across.Lo,J f.Across.Hi]) isAgg23 sizeOf23 rfl rfl rfl rfl)<|y' (X.call call222 rfl (B1w _ _ _ _ f.Across rfl (by omega) (by omega) (by assumption)))<|w' 0 r' r' r'<|v' 3 r'<|S5 0 r' r' r' isAgg23 sizeOf23<|A7<|A2m rfl rfl
theorem B7e(m:Mem)(cf:List Value)(f:Paper)(hf:Enc.rd m cf f)(ct:List Value)(t:Point)(ht:Enc.rd m ct t)(hpf:I4 f)(hpt:N3 t):Exact prog 145 #[.agg cf.toArray,.agg ct.toArray] m (.agg [J ((E3 t.Y t.Half f.Across).Lo),J (min (E3 t.Y t.Half f.Across).Hi f.Height)].toArray):=by
 obtain rfl:=hf
 obtain rfl:=ht
 have hf_:=hpf
 have hfa_:=hpf.2.2.2.1
 have hfc_:=hpf.2.2.2.2
 have ht_:=hpt
 unfold N3 at ht_
 exact have hf1_:=hpf.1;have hpl1_:=V7 ht_.1 ht_.2.2 hfa_;have hpl2_:=V7 ht_.2.1 ht_.2.2 hfc_;C6 func145 r' ntmps145 fun wld=>q' 2 r'<|o' r' r' fun b1=>o' r' r' fun b2=>n' zeroValue23 r' fun b3=>v' 4 r'<|a' 2 r' r'<|a' 1 r' r'<|y' (X.call call223 rfl (B8I _ _ f rfl _ t rfl (by assumption) (by assumption)))<|n' zeroValue23 r' fun b4=>w' 0 r' r' r'<|v' 4 r'<|f' r' t'<|b' 0 r' r' r'<|f' r' t'<|f' r' t'<|b' 3 r' r' r'<|y' (B0J rfl rfl)<|f' r' t'<|I2 (T.storeB (k:=0) sizeOf3 rfl rfl rfl rfl (Nat.le_of_ble_eq_true rfl))<|v' 4 r'<|a' 0 r' r'<|w' 1 r' r' r'<|v' 3 r'<|S5 1 r' r' r' isAgg23 sizeOf23<|A7<|A2m rfl rfl
theorem B1n{G:Prop}(h:G:=by first|exact A8 (by unfold A5q;rw[if_pos (by assumption)])|exact A8 (by unfold A5q;rw[if_neg (by assumption)])):G:=h
theorem C4N(m:Mem)(cf:List Value)(f:Paper)(hf:Enc.rd m cf f)(y:Int)(hpf:I4 f)(hpy:0≤y∧y≤f.Height):Exact prog 146 #[.agg cf.toArray,J y] m (J (A5q f y)):=by
 obtain rfl:=hf
 refine have hf1_:=hpf.1;have hf2_:=hpf.2.1;have hn_:=B0A hpf hpy;have hl_:=A6S hpf hpy;have hq_:=B1b hpf hpy;have hab_:=B3W hpf hpy;C6 func146 r' ntmps146 fun wld=>q' 2 r'<|o' r' r' fun b1=>v' 6 r'<|f' r' t'<|f' r' t'<|b' 0 r' r' r'<|c' (X.eql r' r') (fun h2=>?_) fun h2=>?_
 ·exact v' 10 r'<|A0 r' r'<|A7<|B1n
 exact v' 8 r'<|f' r' t'<|f' r' t'<|b' 0 r' r' r'<|v' 2 r'<|y' (X.mul rfl rfl (by omega) (by omega))<|f' r' t'<|f' r' t'<|b' 0 r' r' r'<|y' (X.mul rfl rfl (by omega) (by omega))<|y' (X.quo rfl rfl (by omega) (by omega) (by omega))<|v' 4 r'<|A0 r' r'<|A7<|B1n
theorem C3y(m:Mem)(cf:List Value)(f:Paper)(hf:Enc.rd m cf f)(y:Int)(hpf:I4 f)(hpy:0≤y∧y≤f.Height):Exact prog 77 #[.agg cf.toArray,J y] m (J (Q1 f y)):=by
 obtain rfl:=hf
 exact have hf1_:=hpf.1;have hf2_:=hpf.2.1;have hn_:=B0A hpf hpy;have hl_:=A6S hpf hpy;have hq_:=B1b hpf hpy;C6 func77 r' ntmps77 fun wld=>q' 2 r'<|o' r' r' fun b1=>v' 4 r'<|B4 18 [] []<|Y' r' r' (A.f r')<|Y' r' r' (A.f r')<|Y' r' r' (A.b 0 r' r' r')<|U' 1 r'<|Y' r' r' (A.f r')<|Y' r' r' (A.f r')<|Y' r' r' (A.b 0 r' r' r')<|Y' r' r' (A.f r')<|Y' r' r' (A.f r')<|Y' r' r' (A.b 0 r' r' r')<|U' 1 r'<|Y' r' r' (X.mul rfl rfl (by omega) (by omega))<|Y' r' r' (A.f r')<|Y' r' r' (A.f r')<|Y' r' r' (A.b 0 r' r' r')<|Y' r' r' (X.quo rfl rfl (by omega) (by omega) (by omega))<|U' 2 r'<|V' 2 r'<|A0 r' r'<|A7<|A8 rfl
end Go.Proofs.T10
namespace Go.Proofs.T10
open Tryz
set_option maxRecDepth 20000
open Go Go.Kx
end Go.Proofs.T10
namespace Go.Proofs.T10
open Tryz
set_option maxRecDepth 20000
open Go Go.Kx
theorem C5X(m:Mem){V v:Value}{e sz n off:Nat}{xs:List Value}{L:List Span}{y:Int}(hxv:xs[off]?=some v)(hB:spB L)(hn:L.length≤1000000)(hlev:0≤y∧y≤12000):Mut prog 76 #[.pointer (some (rp V off)),J y] m [row V e sz n xs,A5 v 23 L] (fun _ Es u=>u= .tuple #[]∧∃v',Es=[row V e sz n (xs.set off v'),A5 v' 23 (A0u L ⟨y,y⟩)]∧v'.oneCell'=true):=by
 have hoff:off<xs.length:=(List.getElem?_eq_some_iff.1 hxv).1
 have hlast:0<L.length→0≤(gt L (L.length-1)).Hi∧(gt L (L.length-1)).Hi≤12000:=fun h_=>(B4d hB (by omega)).2
 refine G2 func76 r' ntmps76 fun wld=>q' 4 r'<|f' r' t'<|y' (M3 (k:=0) isAgg28 rfl rfl hxv)<|y' (S2 (k:=1) runUnderlying28 rfl rfl)<|v' 7 r'<|c' (X.gtr r' r') (fun h1=>?_) fun h1=>?_
 ·refine v' 8 r'<|f' r' t'<|v' 1 r'<|y' (M3 (k:=0) isAgg28 rfl rfl hxv)<|v' 5 r'<|y' (B0 1 (L.length-1))<|v' 1 r'<|f' r' t'<|v' 1 r'<|y' (Q7 (k:=1) (i:=L.length-1) (off:=1) (u:=J (((gt L (L.length-1))).Hi)) isAgg3 rfl rfl (by first|omega|(simp;omega)|simp) rfl)<|v' 3 r'<|c' (X.leq r' r') (fun h2=>?_) fun h2=>?_
  ·refine v' 5 r' ?_
   refine B0l (k:=1) rfl (fun ho_=>?_)
   exact B4 20 [19] [19]<|U' 2 r'<|Y' r' r' (A.f r')<|Y' r' r' (M3 (k:=0) isAgg28 rfl rfl hxv)<|U' 4 r'<|Y' r' r' (A.f r')<|Y' r' r' (M3 (k:=0) isAgg28 rfl rfl hxv)<|U' 2 r'<|Y' r' r' (B0 1 (L.length-1))<|Y' r' r' (A.f r')<|Y' r' r' (Q7 (k:=1) (i:=L.length-1) (off:=1) (u:=J (((gt L (L.length-1))).Hi)) isAgg3 rfl rfl (by first|omega|(simp;omega)|simp) rfl)<|U' 1 r'<|Y' r' r' (A6Z rfl rfl)<|Y' r' r' (B0 1 (L.length-1))<|Y' r' r' (A.f r')<|B3 r' r' r' r' (C5 (k:=1) (i:=L.length-1) (off:=1) (us:=[J (max (((gt L (L.length-1))).Hi) y)]) ((Span.mk (((gt L (L.length-1))).Lo) (max (((gt L (L.length-1))).Hi) y))) sizeOf3 rfl rfl rfl rfl (Nat.zero_lt_succ _) rfl (by first|omega|(simp;omega)|simp) rfl rfl (A4 rfl C2))<|V' 3 r'<|F0 r'<|G0<|⟨rfl,v,(by rw[C1W hxv,A8u ⟨by omega,by dsimp only;omega⟩] <;> rfl),ho_⟩
  refine v' 10 r'<|f' r' t'<|y' (M3 (k:=0) isAgg28 rfl rfl hxv)<|v' 2 r'<|WL.x (V:=Value.agg [J y,J y].toArray) (X.build zeroValue23 runUnderlying23 (G9 _ underlying23) rfl rfl) (by decide) ?_
  refine Y9 (F5 P9 rfl rfl rfl (by decide)) (by decide) fun b3=>?_
  refine G7 (E2 (k:=1) (a:=(Span.mk (y) (y))) P9 rfl rfl rfl rfl (by first|omega|(simp;done)|(simp;omega)) (by decide)) (by decide) (fun v4=>?_)
  refine v' 1 r'<|f' r' t' ?_
  refine F7 (k:=1) rfl (fun ho5=>?_)
  exact I2 (A1Q (k:=0) sizeOf28 rfl rfl rfl ho5 hoff)<|v' 1 r'<|D8 r'<|G0<|⟨rfl,_,(by rw[A4i (fun h_=>by have h1_:=h_.2;dsimp only at h1_;omega)] <;> rfl),ho5⟩
 refine v' 23 r'<|f' r' t'<|y' (M3 (k:=0) isAgg28 rfl rfl hxv)<|v' 2 r'<|WL.x (V:=Value.agg [J y,J y].toArray) (X.build zeroValue23 runUnderlying23 (G9 _ underlying23) rfl rfl) (by decide) ?_
 refine Y9 (F5 P9 rfl rfl rfl (by decide)) (by decide) fun b6=>?_
 refine G7 (E2 (k:=1) (a:=(Span.mk (y) (y))) P9 rfl rfl rfl rfl (by first|omega|(simp;done)|(simp;omega)) (by decide)) (by decide) (fun v7=>?_)
 refine v' 1 r'<|f' r' t' ?_
 refine F7 (k:=1) rfl (fun ho8=>?_)
 exact I2 (A1Q (k:=0) sizeOf28 rfl rfl rfl ho8 hoff)<|v' 1 r'<|D8 r'<|G0<|⟨rfl,_,(by rw[A4i (fun h_=>by have h1_:=h_.2;dsimp only at h1_;omega)] <;> rfl),ho8⟩
end Go.Proofs.T10
