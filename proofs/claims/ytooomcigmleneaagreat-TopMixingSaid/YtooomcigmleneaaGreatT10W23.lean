import Derived.Test.YtooomcigmleneaaGreatKxW
import Derived.Test.YtooomcigmleneaaGreatKyP
import Derived.Test.YtooomcigmleneaaGreatT10Ty
import Derived.Test.YtooomcigmleneaaGreatKxU
import Derived.Test.YtooomcigmleneaaGreatT10SSpec2
import Derived.Test.YtooomcigmleneaaGreatT10W21
set_option linter.all false
namespace Go.Proofs.S10
open Tryz
set_option maxRecDepth 20000
open Go Go.Kx Go.Proofs.T10
variable{G:Prop}
theorem B8o(fs:Array Field)(h:prog.underlying 323=some (.struct fs))(w:World):(fs.mapM fun f=>do pure (f.offset,←sizeOf f.type):Sem _).run prog w= .ok #[(0,1024),(1024,2),(1026,1)] w:=by
 rw[underlying323]at h;cases h;simp[sizeOf47,sizeOf49,sizeOf321]
theorem N8(m:Mem)(n:Int)(lo:Int)(hi:Int):Exact prog 170 #[J n,J lo,J hi] m (.bool (decide (lo≤n∧n≤hi))):=by
 refine C7 func170 r' ntmps170 fun wld=>q' 9 r'<|c' (X.geq r' r') (fun h1=>?_) fun h1=>?_
 ·refine v' 12 r'<|A0 r' r'<|A7 ?_
  first|exact C9 (by omega)|exact A9 (by omega)|exact D5 (by omega)
 refine v' 9 r'<|A0 r' r'<|A7 ?_
 first|exact C9 (by omega)|exact A9 (by omega)|exact D5 (by omega)
theorem A3a(h:G:=by first|exact A8 (by simp only[A1z];rw[if_pos (by omega)])|exact A8 (by simp only[A1z];rw[if_neg (by omega)])):G:=h
theorem A5x(m:Mem)(cw:List Value)(w:Wind)(hw:Enc.rd m cw w):Exact prog 90 #[.agg cw.toArray] m (J (A1z w)):=by
 obtain rfl:=hw
 refine C7 func90 r' ntmps90 fun wld=>q' 2 r'<|o' r' r' fun b1=>v' 6 r'<|f' r' t'<|b' 0 r' r' r'<|c' (X.call call170 rfl (N8 _ _ _ _)) (fun h2=>?_) fun h2=>?_
 ·refine v' 3 r'<|f' r' t'<|v' 1 r'<|b' 0 r' r' r'<|v' 1 r'<|c' (X.call call170 rfl (N8 _ _ _ _)) (fun h3=>?_) fun h3=>?_
  ·exact v' 14 r'<|A0 r' r'<|A7<|A3a
  exact v' 13 r'<|A0 r' r'<|A7<|A3a
 exact v' 17 r'<|A0 r' r'<|A7<|A3a
theorem J8(h:G:=by first|exact A9 (fun h=>by have:=h.2 k (by omega);unfold A0Y at this;omega)|exact D5 ⟨fun h=>⟨by omega,fun j hj=>hall j (by omega)⟩,fun h=>by have:=h.1;omega⟩):G:=h
theorem A4f(h:G:=by exact⟨by omega,fun j hj=>by rcases Nat.lt_succ_iff_lt_or_eq.1 hj with h|h;exact hall j h;subst h;(unfold A0Y;omega)⟩):G:=h
theorem A7Q(m:Mem)(vl:Value)(l:List Height)(hl:Sl m vl l):Exact prog 171 #[vl] m (.bool (decide (Z3 l))):=by
 refine have ll:=hl.le;C7 func171 r' ntmps171 fun wld=>q' 9 r'<|l' hl r'<|v' 4 r' ?_
 refine I0 (fun(k:Nat)=>l.length-k) (fun k=>[]) (fun k=>[(0,vl),(5,vl),(6,J l.length),(7,J k)]) (fun k=>k≤l.length∧(∀j,j<k→A0Y l j)) 0 ?_ ?_
 ·exact⟨Nat.zero_le _,fun j hj=>absurd hj (Nat.not_lt_zero _)⟩
 rintro k ⟨hk,hall⟩
 refine q' 2 r'<|c' (X.lss r' r') (fun h2=>?_) fun h2=>?_
 ·refine v' 11 r'<|x' k hl r' r' fun p3 hp4=>g' hp4 r' fun c5 hc6=>?_
  obtain rfl:=hc6
  refine n' zeroValue198 r' fun b7=>v' 1 r'<|w' 0 r' r' r'<|v' 3 r'<|B4 43 [] []<|U' 1 r'<|C' r' r' (X.eql r' r') (fun h8=>?_) fun h8=>?_
  ·refine U' 1 r'<|Y' r' r' (A.f r')<|Y' r' r' (A.b 0 r' r' r') ?_
   refine A0h rfl rfl (X.neq rfl rfl) (by decide) (fun h9=>?_) (fun h9=>?_)
   ·exact U' 37 r'<|V' 13 r'<|A0 r' r'<|A7<|J8
   refine U' 3 r'<|C' r' r' (X.gtr r' r') (fun h10=>?_) fun h10=>?_
   ·refine U' 1 r'<|Y' r' r' (A.f r')<|Y' r' r' (A.b 0 r' r' r')<|U' 3 r'<|G9 r' r' (Q4 (k-1) runUnderlying126 sizeOf198 rfl rfl hl (by omega) (by omega)) (by decide) fun p11 hp12=>have hp13:=A3g hp12;Y' r' r' (A.f r')<|Y' r' r' (A.i r' hp13)<|C' r' r' (X.leq r' r') (fun h14=>?_) fun h14=>?_
    ·exact U' 23 r'<|V' 13 r'<|A0 r' r'<|A7<|J8
    refine U' 3 r'<|Y' r' r' (A.f r')<|Y' r' r' (A.b 0 r' r' r')<|C' r' r' (X.gtr r' r') (fun h15=>?_) fun h15=>?_
    ·exact U' 17 r'<|V' 13 r'<|A0 r' r'<|A7<|J8
    refine U' 2 r'<|Y' r' r' (A.f r')<|Y' r' r' (A.f r')<|Y' r' r' (A.b 0 r' r' r')<|Y' r' r' (A.f r')<|Y' r' r' (A.f r')<|Y' r' r' (A.b 0 r' r' r')<|C' r' r' (X.call call170 rfl (N8 _ _ _ _)) (fun h16=>?_) fun h16=>?_
    ·refine U' 3 r'<|Y' r' r' (A.f r')<|Y' r' r' (A.f r')<|Y' r' r' (A.b 0 r' r' r')<|C' r' r' (X.gtr r' r') (fun h17=>?_) fun h17=>?_
     ·exact U' 1 r'<|V' 13 r'<|A0 r' r'<|A7<|J8
     exact U' 1 r'<|V' 10 r'<|G5 (k+1)<|A4f
    exact U' 8 r'<|V' 13 r'<|A0 r' r'<|A7<|J8
   refine U' 13 r'<|Y' r' r' (A.f r')<|Y' r' r' (A.b 0 r' r' r')<|C' r' r' (X.gtr r' r') (fun h18=>?_) fun h18=>?_
   ·exact U' 17 r'<|V' 13 r'<|A0 r' r'<|A7<|J8
   refine U' 2 r'<|Y' r' r' (A.f r')<|Y' r' r' (A.f r')<|Y' r' r' (A.b 0 r' r' r')<|Y' r' r' (A.f r')<|Y' r' r' (A.f r')<|Y' r' r' (A.b 0 r' r' r')<|C' r' r' (X.call call170 rfl (N8 _ _ _ _)) (fun h19=>?_) fun h19=>?_
   ·refine U' 3 r'<|Y' r' r' (A.f r')<|Y' r' r' (A.f r')<|Y' r' r' (A.b 0 r' r' r')<|C' r' r' (X.gtr r' r') (fun h20=>?_) fun h20=>?_
    ·exact U' 1 r'<|V' 13 r'<|A0 r' r'<|A7<|J8
    exact U' 1 r'<|V' 10 r'<|G5 (k+1)<|A4f
   exact U' 8 r'<|V' 13 r'<|A0 r' r'<|A7<|J8
  refine U' 7 r'<|C' r' r' (X.gtr r' r') (fun h21=>?_) fun h21=>?_
  ·refine U' 1 r'<|Y' r' r' (A.f r')<|Y' r' r' (A.b 0 r' r' r')<|U' 3 r'<|G9 r' r' (Q4 (k-1) runUnderlying126 sizeOf198 rfl rfl hl (by omega) (by omega)) (by decide) fun p22 hp23=>have hp24:=A3g hp23;Y' r' r' (A.f r')<|Y' r' r' (A.i r' hp24)<|C' r' r' (X.leq r' r') (fun h25=>?_) fun h25=>?_
   ·exact U' 23 r'<|V' 13 r'<|A0 r' r'<|A7<|J8
   refine U' 3 r'<|Y' r' r' (A.f r')<|Y' r' r' (A.b 0 r' r' r')<|C' r' r' (X.gtr r' r') (fun h26=>?_) fun h26=>?_
   ·exact U' 17 r'<|V' 13 r'<|A0 r' r'<|A7<|J8
   refine U' 2 r'<|Y' r' r' (A.f r')<|Y' r' r' (A.f r')<|Y' r' r' (A.b 0 r' r' r')<|Y' r' r' (A.f r')<|Y' r' r' (A.f r')<|Y' r' r' (A.b 0 r' r' r')<|C' r' r' (X.call call170 rfl (N8 _ _ _ _)) (fun h27=>?_) fun h27=>?_
   ·refine U' 3 r'<|Y' r' r' (A.f r')<|Y' r' r' (A.f r')<|Y' r' r' (A.b 0 r' r' r')<|C' r' r' (X.gtr r' r') (fun h28=>?_) fun h28=>?_
    ·exact U' 1 r'<|V' 13 r'<|A0 r' r'<|A7<|J8
    exact U' 1 r'<|V' 10 r'<|G5 (k+1)<|A4f
   exact U' 8 r'<|V' 13 r'<|A0 r' r'<|A7<|J8
  refine U' 13 r'<|Y' r' r' (A.f r')<|Y' r' r' (A.b 0 r' r' r')<|C' r' r' (X.gtr r' r') (fun h29=>?_) fun h29=>?_
  ·exact U' 17 r'<|V' 13 r'<|A0 r' r'<|A7<|J8
  refine U' 2 r'<|Y' r' r' (A.f r')<|Y' r' r' (A.f r')<|Y' r' r' (A.b 0 r' r' r')<|Y' r' r' (A.f r')<|Y' r' r' (A.f r')<|Y' r' r' (A.b 0 r' r' r')<|C' r' r' (X.call call170 rfl (N8 _ _ _ _)) (fun h30=>?_) fun h30=>?_
  ·refine U' 3 r'<|Y' r' r' (A.f r')<|Y' r' r' (A.f r')<|Y' r' r' (A.b 0 r' r' r')<|C' r' r' (X.gtr r' r') (fun h31=>?_) fun h31=>?_
   ·exact U' 1 r'<|V' 13 r'<|A0 r' r'<|A7<|J8
   exact U' 1 r'<|V' 10 r'<|G5 (k+1)<|A4f
  exact U' 8 r'<|V' 13 r'<|A0 r' r'<|A7<|J8
 exact v' 12 r'<|l' hl r'<|y' (X.call call170 rfl (N8 _ _ _ _))<|v' 4 r'<|A0 r' r'<|A7<|J8
theorem T7(h:G:=by first|(have hc:=B7s (l:=l) (by omega);exact F8 (A8 (by rw[hc])) (A8 (by rw[hc])))|(have hbad:U2 l k=50:=(by unfold U2;rw[if_pos (by unfold H5;omega)]);have hc:=A4c (l:=l) (k:=k) (by omega) (by omega) hall (by omega);exact F8 (A8 (by rw[hc];exact hbad.symm)) (A8 (by rw[hc])))|(have hbad:U2 l k=50:=(by unfold U2;rw[if_pos (.inl (by assumption))]);have hc:=A4c (l:=l) (k:=k) (by omega) (by omega) hall (by omega);exact F8 (A8 (by rw[hc];exact hbad.symm)) (A8 (by rw[hc])))|(have hbad:U2 l k=51:=(by unfold U2;rw[if_neg (by unfold H5;omega),if_pos (by assumption)]);have hc:=A4c (l:=l) (k:=k) (by omega) (by omega) hall (by omega);exact F8 (A8 (by rw[hc];exact hbad.symm)) (A8 (by rw[hc])))|(have hbad:U2 l k=51:=(by unfold U2;rw[if_neg (by unfold H5 at *; omega),if_pos (by assumption)]);have hc:=A4c (l:=l) (k:=k) (by omega) (by omega) hall (by omega);exact F8 (A8 (by rw[hc];exact hbad.symm)) (A8 (by rw[hc])))|(have hc:=B8z (l:=l) (by omega) (fun j hj=>hall j (by omega));exact F8 (A8 (by rw[hc])) (A8 (by rw[hc])))):G:=h
theorem A9z(h:G:=by exact⟨by omega,fun j hj=>by rcases Nat.lt_succ_iff_lt_or_eq.1 hj with h|h;exact hall j h;subst h;(unfold U2;rw[if_neg (by unfold H5 at *; omega),if_neg (by simpa using ‹Z3 _›)])⟩):G:=h
theorem A5H(m:Mem)(vl:Value)(l:List Station)(hl:Sl m vl l):Exact prog 89 #[vl] m (.tuple #[J ((H8 l).1),J ((H8 l).2)]):=by
 refine have ll:=hl.le;C7 func89 r' ntmps89 fun wld=>q' 10 r'<|l' hl r'<|c' (X.gtr r' r') (fun h1=>?_) fun h1=>?_
 ·exact v' 11 r'<|B6 r' r' r'<|A7<|T7
 refine v' 9 r'<|l' hl r'<|v' 4 r' ?_
 refine I0 (fun(k:Nat)=>l.length-k) (fun k=>[]) (fun k=>[(0,vl),(9,vl),(10,J l.length),(11,J k)]) (fun k=>k≤l.length∧(∀j,j<k→U2 l j=0)) 0 ?_ ?_
 ·exact⟨Nat.zero_le _,fun j hj=>absurd hj (Nat.not_lt_zero _)⟩
 rintro k ⟨hk,hall⟩
 refine q' 2 r'<|c' (X.lss r' r') (fun h3=>?_) fun h3=>?_
 ·refine v' 11 r'<|x' k hl r' r' fun p4 hp5=>g' hp5 r' fun c6 hc7=>?_
  obtain⟨v8,rfl,hs9⟩:=hc7
  refine have hl10:=hs9.le;n' zeroValue128 r' fun b11=>v' 1 r'<|w' 0 r' r' r'<|v' 6 r'<|f' r' t'<|b' 0 r' r' r'<|c' (X.call call170 rfl (N8 _ _ _ _)) (fun h12=>?_) fun h12=>?_
  ·refine v' 6 r'<|B4 14 [] []<|U' 1 r'<|C' r' r' (X.gtr r' r') (fun h13=>?_) fun h13=>?_
   ·refine U' 1 r'<|Y' r' r' (A.f r')<|Y' r' r' (A.b 0 r' r' r')<|U' 3 r'<|G9 r' r' (Q4 (k-1) runUnderlying47 sizeOf128 rfl rfl hl (by omega) (by omega)) (by decide) fun p14 hp15=>have hp16:=B2C hp15;Y' r' r' (A.f r')<|Y' r' r' (A.i r' hp16)<|C' r' r' (X.leq r' r') (fun h17=>?_) fun h17=>?_
    ·exact U' 2 r'<|V' 19 r'<|B6 r' r' r'<|A7<|T7
    refine U' 2 r'<|V' 4 r'<|f' r' t'<|b' 0 r' r' r'<|c' (X.call call170 rfl (N8 _ _ _ _)) (fun h18=>?_) fun h18=>?_
    ·refine v' 6 r'<|f' r' t'<|b' 0 r' r' r'<|c' (X.call call170 rfl (N8 _ _ _ _)) (fun h19=>?_) fun h19=>?_
     ·refine v' 7 r'<|f' r' t'<|b' 0 r' r' r'<|c' (X.call call171 rfl (A7Q _ _ _ hs9)) (fun h20=>?_) fun h20=>?_
      ·exact v' 14 r'<|G5 (k+1)<|A9z
      exact v' 19 r'<|B6 r' r' r'<|A7<|T7
     exact v' 19 r'<|B6 r' r' r'<|A7<|T7
    exact v' 22 r'<|B6 r' r' r'<|A7<|T7
   refine U' 12 r'<|V' 4 r'<|f' r' t'<|b' 0 r' r' r'<|c' (X.call call170 rfl (N8 _ _ _ _)) (fun h21=>?_) fun h21=>?_
   ·refine v' 6 r'<|f' r' t'<|b' 0 r' r' r'<|c' (X.call call170 rfl (N8 _ _ _ _)) (fun h22=>?_) fun h22=>?_
    ·refine v' 7 r'<|f' r' t'<|b' 0 r' r' r'<|c' (X.call call171 rfl (A7Q _ _ _ hs9)) (fun h23=>?_) fun h23=>?_
     ·exact v' 14 r'<|G5 (k+1)<|A9z
     exact v' 19 r'<|B6 r' r' r'<|A7<|T7
    exact v' 19 r'<|B6 r' r' r'<|A7<|T7
   exact v' 22 r'<|B6 r' r' r'<|A7<|T7
  exact v' 22 r'<|B6 r' r' r'<|A7<|T7
 exact v' 16 r'<|B6 r' r' r'<|A7<|T7
theorem A8h(h:G:=by first|exact A8 (A9I (by omega) hall (by assumption)).symm|exact A8 (B1F (fun j hj=>hall j (by omega))).symm):G:=h
theorem C1O(m:Mem)(vl:Value)(l:List Station)(hl:Sl m vl l):Exact prog 292 #[vl] m (J (A3G l)):=by
 refine have ll:=hl.le;C7 func292 r' ntmps292 fun wld=>q' 9 r'<|l' hl r'<|v' 4 r' ?_
 refine I0 (fun(k:Nat)=>l.length-k) (fun k=>[]) (fun k=>[(7,vl),(8,J l.length),(9,J k)]) (fun k=>k≤l.length∧(∀j,j<k→A2d (gt l j)=0)) 0 ?_ ?_
 ·exact⟨Nat.zero_le _,fun j hj=>absurd hj (Nat.not_lt_zero _)⟩
 rintro k ⟨hk,hall⟩
 refine K6 (fun hgood0=>?_)
 refine q' 2 r'<|c' (X.lss r' r') (fun h2=>?_) fun h2=>?_
 ·refine v' 10 r'<|x' k hl r' r' fun p3 hp4=>g' hp4 r' fun c5 hc6=>?_
  obtain⟨v7,rfl,hs8⟩:=hc6
  refine have hl9:=hs8.le;n' zeroValue128 r' fun b10=>w' 0 r' r' r'<|v' 4 r'<|a' 0 r' r' ?_
  refine D1 (L5 (α:=Station) (vals:=[.agg [J ((gt l k).ID),J ((gt l k).X),J ((gt l k).Y),v7].toArray]) (L:=[gt l k]) A6R rfl (.cons rfl ⟨_,rfl,hs8⟩ .nil) rfl rfl) (by decide) (fun m11 v12 hle13 hs14=>?_)
  refine y' (X.call call89 rfl (A5H _ _ _ hs14))<|v' 10 r'<|e' (X.neq r' r') (fun h15=>?_) fun h15=>?_
  ·exact v' 15 r'<|A0 r' r'<|A7<|A8h
  exact v' 11 r'<|E5 hgood0 hle13<|G5 (k+1)<|⟨by omega,fun j hj=>by rcases Nat.lt_succ_iff_lt_or_eq.1 hj with h|h;exact hall j h;subst h;(simpa[A2d]using ‹(H8 _).1=0›)⟩
 exact v' 15 r'<|A0 r' r'<|A7<|A8h
theorem B4J(m:Mem)(ca:List Value)(a:Station)(ha:Enc.rd m ca a)(cb:List Value)(b:Station)(hb:Enc.rd m cb b)(hpa:H5 a)(hpb:H5 b):Exact prog 325 #[.agg ca.toArray,.agg cb.toArray] m (J (A4g a b)):=by
 obtain⟨v1,rfl,hs2⟩:=ha
 have hl3:=hs2.le
 obtain⟨v4,rfl,hs5⟩:=hb
 have hl6:=hs5.le
 have ha1:=hpa.2.1
 have ha2:=hpa.2.2
 have hb1:=hpb.2.1
 have hb2:=hpb.2.2
 have hx2:=B2u (x:=a.X-b.X) (by omega) (by omega)
 have hy2:=B2u (x:=a.Y-b.Y) (by omega) (by omega)
 have hd2:Q3 a b=(a.X-b.X)*(a.X-b.X)+(a.Y-b.Y)*(a.Y-b.Y):=rfl
 refine C7 func325 r' ntmps325 fun wld=>q' 2 r'<|o' r' r' fun b7=>o' r' r' fun b8=>v' 4 r'<|B4 12 [] []<|Y' r' r' (A.f r')<|Y' r' r' (A.b 1 r' r' r')<|Y' r' r' (A.f r')<|Y' r' r' (A.b 0 r' r' r')<|U' 1 r'<|Y' r' r' (A.f r')<|Y' r' r' (A.b 1 r' r' r')<|Y' r' r' (A.f r')<|Y' r' r' (A.b 0 r' r' r')<|U' 3 r'<|V' 8 r' ?_
 refine I0 (fun(k:Nat)=>V7 (Q3 a b).toNat-k) (fun k=>[blk b8 128 [J b.ID,J b.X,J b.Y,v4],blk b7 128 [J a.ID,J a.X,J a.Y,v1]]) (fun k=>[(5,J (a.X-b.X)),(6,J (a.Y-b.Y)),(7,J k)]) (fun k=>k≤V7 (Q3 a b).toNat) 0 ?_ ?_
 ·exact Nat.zero_le _
 rintro k hF9
 refine have hk:=hF9;have hkk:=C5R hpa hpb hk;have hkb:=B0D (Q3 a b).toNat;have hdb:=A8Z hpa hpb;q' 5 r'<|y' (X.mul rfl rfl (by omega) (by omega))<|v' 2 r'<|y' (X.mul rfl rfl (by omega) (by omega))<|v' 2 r'<|y' (X.mul rfl rfl (by omega) (by omega))<|v' 1 r'<|c' (X.lss r' r') (fun h10=>?_) fun h10=>?_
 ·refine v' 13 r' ?_
  refine G5 (k+1) ?_ ?_
  ·exact B1Q (by omega) (by omega)
  (have:=B1Q (a:=a) (b:=b) (k:=k) (by omega) (by omega));omega
 exact v' 15 r'<|A0 r' r'<|A7<|A8 (C2g (by omega) hk (by omega))
theorem C1v(m:Mem)(cw:List Value)(w:Wind)(hw:Enc.rd m cw w)(ca:List Value)(a:Station)(ha:Enc.rd m ca a)(cb:List Value)(b:Station)(hb:Enc.rd m cb b)(hpw:A1z w=0)(hpa:H5 a)(hpb:H5 b):Exact prog 296 #[.agg cw.toArray,.agg ca.toArray,.agg cb.toArray] m (J (A0p w a b)):=by
 obtain rfl:=hw
 obtain⟨v1,rfl,hs2⟩:=ha
 have hl3:=hs2.le
 obtain⟨v4,rfl,hs5⟩:=hb
 refine have hl6:=hs5.le;have hmul:=B5D hpw hpa hpb;have hw1:=A5O hpw;C7 func296 r' ntmps296 fun wld=>q' 2 r'<|o' r' r' fun b7=>o' r' r' fun b8=>o' r' r' fun b9=>v' 6 r'<|f' r' t'<|b' 1 r' r' r'<|f' r' t'<|b' 0 r' r' r'<|c' (X.eql r' r') (fun h10=>?_) fun h10=>?_
 ·refine v' 10 r'<|A0 r' r'<|A7 ?_
  first|exact A8 (by unfold A0p;rw[if_pos (by assumption)])|exact A8 (by unfold A0p;rw[if_neg (by assumption)])
 refine v' 6 r'<|B4 11 [] []<|Y' r' r' (A.f r')<|Y' r' r' (A.b 2 r' r' r')<|Y' r' r' (A.f r')<|Y' r' r' (A.b 2 r' r' r')<|Y' r' r' (K4 1 r' r' r')<|Y' r' r' (K4 0 r' r' r')<|Y' r' r' (X.call call325 rfl (B4J _ _ a ⟨_,rfl,hs2⟩ _ b ⟨_,rfl,hs5⟩ (by assumption) (by assumption)))<|Y' r' r' (X.mul rfl rfl (by omega) (by omega))<|Y' r' r' (X.quo rfl rfl (by omega) (by omega) (by omega))<|U' 2 r'<|V' 2 r'<|A0 r' r'<|A7 ?_
 first|exact A8 (by unfold A0p;rw[if_pos (by assumption)])|exact A8 (by unfold A0p;rw[if_neg (by assumption)])
theorem B8M(m:Mem)(level:Int)(height:Int)(hl:0≤level∧level≤12001)(hh:0≤height∧height≤4000):Exact prog 298 #[J level,J height] m (J (A0n level height)):=by
 refine have hm:=B0A hl hh;C7 func298 r' ntmps298 fun wld=>q' 10 r'<|y' (X.mul rfl rfl (by omega) (by omega))<|y' (X.quo rfl rfl (by omega) (by omega) (by omega))<|v' 5 r'<|A0 r' r'<|A7 ?_
 rfl
theorem C3N(m:Mem)(level:Int)(ch:List Value)(h:Span)(hh:Enc.rd m ch h)(hl:0≤level∧level≤12001)(hs:A3F h):Exact prog 250 #[J level,.agg ch.toArray] m (.agg [J (A0n level h.Lo),J (A0n level h.Hi)].toArray):=by
 obtain rfl:=hh
 refine have hs1:=hs.1;have hs2:=hs.2;C7 func250 r' ntmps250 fun wld=>q' 2 r'<|o' r' r' fun b1=>n' zeroValue23 r' fun b2=>v' 3 r'<|B4 10 [9] [9]<|U' 1 r'<|Y' r' r' (A.f r')<|Y' r' r' (A.b 1 r' r' r')<|Y' r' r' (X.call call298 rfl (B8M _ _ _ (by omega) (by omega)))<|U' 1 r'<|Y' r' r' (A.f r')<|Y' r' r' (A.b 1 r' r' r')<|Y' r' r' (X.call call298 rfl (B8M _ _ _ (by omega) (by omega)))<|DW.x (V:=Value.agg [J (A0n level h.Lo),J (A0n level h.Hi)].toArray) r' r' (X.build zeroValue23 runUnderlying23 (H3 _ underlying23) rfl rfl) (by decide) ?_
 refine W' 0 r' r' r' r' r'<|V' 2 r'<|T3 0 r' r' r' isAgg23 sizeOf23<|A7 ?_
 rfl
theorem B6o(m:Mem)(b n:Nat)(L:List Int)(tl:List Value)(f:Nat→Nat→Int)(hM:Mat L f)(hn:n≤32)(hB:InB n 1000000000 f):Mut prog 297 #[Pt b 0,.int .i64 ↑n] m [blk b 323 (P6 L++tl)] (fun _ Es v=>v= .tuple #[]∧∃L',Mat L' (A0Z n f n)∧Es=[blk b 323 (P6 L'++tl)]):=by
 refine G3 func297 r' ntmps297 fun wld=>q' 7 r' ?_
 refine O6 (fun(k:Nat) (L1:List Int)=>n-k) (fun k L1=>[blk b 323 (P6 (L1)++tl)]) (fun k L1=>[(0,Pt b 0),(1,J n),(7,J n),(8,J k)]) (fun k L1=>Mat L1 (A0Z n f k)∧k≤n) 0 L ?_ ?_
 ·exact⟨hM,Nat.zero_le _⟩
 rintro k L1 ⟨hM1,hk⟩
 refine have hB1:=hB.all k hk;q' 2 r'<|c' (X.lss r' r') (fun h2=>?_) fun h2=>?_
 ·refine v' 21 r' ?_
  refine O6 (fun(i:Nat) (L2:List Int)=>n-i) (fun i L2=>[blk b 323 (P6 (L2)++tl)]) (fun i L2=>[(0,Pt b 0),(1,J n),(4,J k),(7,J n),(8,J k),(11,J n),(12,J i)]) (fun i L2=>Mat L2 (A5n n k (A0Z n f k) i)∧i≤n) 0 L1 ?_ ?_
  ·exact⟨hM1,Nat.zero_le _⟩
  rintro i L2 ⟨hM2,hi⟩
  have hB2:=hB1.lay (k:=k) (by omega) i hi
  refine q' 2 r'<|c' (X.lss r' r') (fun h4=>?_) fun h4=>?_
  ·refine v' 21 r' ?_
   refine O6 (fun(j:Nat) (L3:List Int)=>n-j) (fun j L3=>[blk b 323 (P6 (L3)++tl)]) (fun j L3=>[(0,Pt b 0),(1,J n),(4,J k),(5,J i),(7,J n),(8,J k),(11,J n),(12,J i),(15,J n),(16,J j)]) (fun j L3=>Mat L3 (A9o k i (A5n n k (A0Z n f k) i) j)∧j≤n) 0 L2 ?_ ?_
   ·exact⟨hM2,Nat.zero_le _⟩
   rintro j L3 ⟨hM3,hj⟩
   have hB3:=hB2.row (k:=k) (i:=i) (by omega) (by omega) j hj
   refine q' 2 r'<|c' (X.lss r' r') (fun h6=>?_) fun h6=>?_
   ·refine v' 14 r' ?_
    have hb1:=hM3.bd hn hB3 (a:=i) (b:=k) (by omega) (by omega)
    have hb2:=hM3.bd hn hB3 (a:=k) (b:=j) (by omega) (by omega)
    exact have hl3:=hM3.1;B4 30 [29] [29]<|U' 7 r'<|Y' r' r' (V1 i underlying321 sizeOf319 rfl rfl (by omega) (by omega))<|Y' r' r' (V1 j underlying319 sizeOf3 rfl rfl (by omega) (by omega))<|Y' r' r' (A8C (k:=0) isAgg3 rfl rfl (by omega))<|U' 4 r'<|Y' r' r' (V1 i underlying321 sizeOf319 rfl rfl (by omega) (by omega))<|Y' r' r' (V1 k underlying319 sizeOf3 rfl rfl (by omega) (by omega))<|Y' r' r' (A8C (k:=0) isAgg3 rfl rfl (by omega))<|U' 4 r'<|Y' r' r' (V1 k underlying321 sizeOf319 rfl rfl (by omega) (by omega))<|Y' r' r' (V1 j underlying319 sizeOf3 rfl rfl (by omega) (by omega))<|Y' r' r' (A8C (k:=0) isAgg3 rfl rfl (by omega))<|U' 1 r'<|Y' r' r' (B0Q rfl rfl)<|U' 1 r'<|Y' r' r' (V1 i underlying321 sizeOf319 rfl rfl (by omega) (by omega))<|Y' r' r' (V1 j underlying319 sizeOf3 rfl rfl (by omega) (by omega))<|B3 r' r' r' r' (B1p (k:=0) sizeOf3 rfl rfl rfl (by omega))<|V' 7 r'<|J7 (j+1) (L3.set (0+i*32+j*1) (min (gt L3 (0+i*32+j*1)) ((gt L3 (0+i*32+k*1))+(gt L3 (0+k*32+j*1)))))<|⟨B6C hM3 (by omega) (by omega) (by omega),by omega⟩
   exact v' 15 r'<|J7 (i+1) L3<|⟨(show j=n from by omega)▸hM3,by omega⟩
  exact v' 15 r'<|J7 (k+1) L2<|⟨(show i=n from by omega)▸hM2,by omega⟩
 exact v' 8 r'<|D9 r'<|G0<|⟨rfl,_,(show k=n from by omega)▸hM1,rfl⟩
theorem B8c(m:Mem)(cw:List Value)(w:Wind)(hw:Enc.rd m cw w)(vl:Value)(l:List Station)(hl:Sl m vl l):Pure prog 249 #[.agg cw.toArray,vl] m (fun m' v=>∃r0,v= .tuple #[.pointer r0,J (J3 w l)]∧(J3 w l=0→∃p,r0=some p∧At m' p (B7q w l))):=by
 obtain rfl:=hw
 refine have ll:=hl.le;H7 func249 r' ntmps249 fun wld=>q' 2 r'<|o' r' r' fun b1=>v' 8 r'<|y' (X.call call89 rfl (A5H _ _ _ hl))<|v' 10 r'<|e' (X.neq r' r') (fun h2=>?_) fun h2=>?_
 ·exact v' 12 r'<|B6 r' r' r'<|C5<|⟨none,F8 rfl (A8 (by unfold J3;rw[if_pos (by omega)])),fun hw=>absurd (K0 hw).1 (by omega)⟩
 refine v' 8 r'<|a' 0 r' r'<|y' (X.call call90 rfl (A5x _ _ w rfl))<|v' 6 r'<|e' (X.neq r' r') (fun h3=>?_) fun h3=>?_
 ·exact v' 12 r'<|B6 r' r' r'<|C5<|⟨none,F8 rfl (A8 (by unfold J3;rw[if_neg (by omega)])),fun hw=>absurd (K0 hw).2 (by omega)⟩
 refine v' 6 r' ?_
 have hw0:=B9h (w:=w) (l:=l) (by omega) (by omega)
 have hl32:=(A0c (l:=l) (by omega)).1
 refine q' 1 r'<|a' 0 r' r'<|v' 1 r'<|y' (X.build C7M runUnderlying323 (B8o _ underlying323) rfl (C4x _ _ _ (F4 hl.one)))<|o' r' r' fun b4=>v' 7 r'<|l' hl r'<|v' 4 r' ?_
 refine O6 (fun(i:Nat) (L1:List Int)=>l.length-i) (fun i L1=>[blk b4 323 (P6 (L1)++[J w.Fixed,J w.Each,vl]),blk b1 49 [J w.Fixed,J w.Each]]) (fun i L1=>[(1,vl),(2,Pt b1 0),(9,Pt b4 0),(31,vl),(32,J l.length),(33,J i)]) (fun i L1=>Mat L1 (A1W w l i 0)∧i≤l.length) 0 (List.replicate 1024 0) ?_ ?_
 ·exact⟨B8N w l,Nat.zero_le _⟩
 rintro i L1 ⟨hM1,hi⟩
 refine q' 2 r'<|c' (X.lss r' r') (fun h6=>?_) fun h6=>?_
 ·refine v' 11 r'<|x' i hl r' r' fun p7 hp8=>g' hp8 r' fun c9 hc10=>?_
  obtain⟨v11,rfl,hs12⟩:=hc10
  refine have hl13:=hs12.le;n' zeroValue128 r' fun b14=>v' 1 r'<|w' 0 r' r' r'<|v' 5 r'<|l' hl r'<|v' 4 r' ?_
  refine O6 (fun(k:Nat) (L2:List Int)=>l.length-k) (fun k L2=>[blk b14 128 [J ((gt l i).ID),J ((gt l i).X),J ((gt l i).Y),v11],blk b4 323 (P6 (L2)++[J w.Fixed,J w.Each,vl]),blk b1 49 [J w.Fixed,J w.Each]]) (fun k L2=>[(1,vl),(2,Pt b1 0),(9,Pt b4 0),(10,J i),(11,Pt b14 0),(31,vl),(32,J l.length),(33,J i),(38,vl),(39,J l.length),(40,J k)]) (fun k L2=>Mat L2 (A1W w l i k)∧k≤l.length) 0 L1 ?_ ?_
  ·exact⟨hM1,Nat.zero_le _⟩
  rintro k L2 ⟨hM2,hk⟩
  refine q' 2 r'<|c' (X.lss r' r') (fun h16=>?_) fun h16=>?_
  ·refine v' 11 r'<|x' k hl r' r' fun p17 hp18=>g' hp18 r' fun c19 hc20=>?_
   obtain⟨v21,rfl,hs22⟩:=hc20
   refine have hl23:=hs22.le;n' zeroValue128 r' fun b24=>v' 1 r'<|w' 0 r' r' r'<|v' 2 r' ?_
   have hpa:=(R6 (K0 hw0).1 (k:=i) (by omega)).1
   have hpb:=(R6 (K0 hw0).1 (k:=k) (by omega)).1
   exact have hl2:=hM2.1;B4 12 [11] [11]<|U' 3 r'<|Y' r' r' (K4 3 r' r' r')<|Y' r' r' (K4 1 r' r' r')<|Y' r' r' (K4 0 r' r' r')<|Y' r' r' (X.call call296 rfl (C1v _ _ w rfl _ (gt l i) ⟨_,rfl,hs12⟩ _ (gt l k) ⟨_,rfl,hs22⟩ (by first|assumption|exact(K0 hw0).2) (by first|assumption|exact(K0 hw0).2) (by first|assumption|exact(K0 hw0).2)))<|U' 1 r'<|Y' r' r' (A.f r')<|Y' r' r' (V1 i underlying321 sizeOf319 rfl rfl (by omega) (by omega))<|Y' r' r' (V1 k underlying319 sizeOf3 rfl rfl (by omega) (by omega))<|B3 r' r' r' r' (B1p (k:=2) sizeOf3 rfl rfl rfl (by omega))<|V' 7 r'<|J7 (k+1) (L2.set (0+i*32+k*1) (A0p w ((gt l i)) ((gt l k))))<|⟨B8O hM2 (by omega) (by omega) (by omega),by omega⟩
  exact v' 15 r'<|J7 (i+1) L2<|⟨C1u hM2 (by omega),by omega⟩
 refine v' 10 r' ?_
 have hM:=C1A hM1 (by omega)
 refine q' 3 r'<|f' r' t'<|v' 1 r'<|l' hl r' ?_
 refine C2 (C2T (k:=0) call297 rfl rfl (B6o _ _ _ _ [J w.Fixed,J w.Each,vl] _ hM (by omega) (A6S hw0))) (by decide) (fun m25 _ _ hle27 ⟨_,L26,hM28,hEs⟩=>?_)
 subst hEs
 refine have hl:=hl.mono hle27;v' 10 r' ?_
 refine A6A (x:=(⟨L26,w,l⟩:Reg)) 0 rfl rfl (C6f hM28.1 hl) (fun m29 hle30 hp31=>?_)
 exact B6 r' r' r'<|C5<|⟨_,by rw[hw0],fun _=>⟨_,rfl,C5f hp31 hM28⟩⟩
end Go.Proofs.S10
