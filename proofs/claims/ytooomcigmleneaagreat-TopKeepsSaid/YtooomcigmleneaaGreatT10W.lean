import Derived.Test.YtooomcigmleneaaGreatKxW
import Derived.Test.YtooomcigmleneaaGreatKyP
import Derived.Test.YtooomcigmleneaaGreatT10Ty
import Derived.Test.YtooomcigmleneaaGreatKxU
import Derived.Test.YtooomcigmleneaaGreatT10Set
import Derived.Test.YtooomcigmleneaaGreatKxQ
import Derived.KernelRfl
set_option linter.all false
set_option maxHeartbeats 1000000
namespace Go.Proofs.T10
open Tryz
set_option maxRecDepth 20000
open Go Go.Kx
theorem A4o(m:Mem)(n:Int)(lo:Int)(hi:Int):Exact prog 26 #[J n,J lo,J hi] m (.bool (decide (lo≤n∧n≤hi))):=by
 refine C6 func26 r' ntmps26 fun wld=>q' 9 r'<|c' (X.geq r' r') (fun h1=>?_) fun h1=>?_
 ·refine v' 12 r'<|A0 r' r'<|A7 ?_
  first|exact C7 (by omega)|exact A9 (by omega)|exact D5 (by omega)
 refine v' 9 r'<|A0 r' r'<|A7 ?_
 first|exact C7 (by omega)|exact A9 (by omega)|exact D5 (by omega)
theorem A2g{G:Prop}(h:G:=by first|exact A8 (C3W (by unfold X7;omega)).symm|exact A8 (A8F (by unfold X7;omega)).symm):G:=h
theorem A9U(m:Mem)(cp:List Value)(p:Pen)(hp:Enc.rd m cp p):Exact prog 8 #[.agg cp.toArray] m (J (A5c p)):=by
 obtain rfl:=hp
 refine C6 func8 r' ntmps8 fun wld=>q' 2 r'<|o' r' r' fun b1=>v' 5 r'<|f' r' t'<|y' (I9 (k:=0) (vs:=[J p.Zero.Lo,J p.Zero.Hi]) isAgg23 sizeOf23 rfl rfl rfl rfl)<|n' zeroValue23 r' fun b2=>w' 0 r' r' r'<|v' 5 r'<|f' r' t'<|b' 1 r' r' r'<|c' (X.call call26 rfl (A4o _ _ _ _)) (fun h3=>?_) fun h3=>?_
 ·refine v' 3 r'<|f' r' t'<|v' 1 r'<|b' 0 r' r' r'<|v' 1 r'<|f' r' t'<|v' 1 r'<|b' 0 r' r' r'<|v' 1 r'<|c' (X.call call26 rfl (A4o _ _ _ _)) (fun h4=>?_) fun h4=>?_
  ·refine v' 5 r'<|f' r' t'<|v' 1 r'<|b' 0 r' r' r'<|v' 1 r'<|c' (X.gtr r' r') (fun h5=>?_) fun h5=>?_
   ·exact v' 25 r'<|A0 r' r'<|A7<|A2g
   refine v' 3 r'<|f' r' t'<|v' 1 r'<|b' 0 r' r' r'<|v' 1 r'<|f' r' t'<|v' 1 r'<|b' 0 r' r' r'<|v' 3 r'<|c' (X.gtr r' r') (fun h6=>?_) fun h6=>?_
   ·exact v' 17 r'<|A0 r' r'<|A7<|A2g
   refine v' 3 r'<|f' r' t'<|v' 1 r'<|b' 1 r' r' r'<|v' 1 r'<|c' (X.call call26 rfl (A4o _ _ _ _)) (fun h7=>?_) fun h7=>?_
   ·exact v' 14 r'<|A0 r' r'<|A7<|A2g
   exact v' 13 r'<|A0 r' r'<|A7<|A2g
  exact v' 32 r'<|A0 r' r'<|A7<|A2g
 exact v' 38 r'<|A0 r' r'<|A7<|A2g
theorem B5i(m:Mem)(a:Int)(b:Int)(ha: -200000≤a∧a≤200000)(hb: -200000≤b∧b≤200000):Exact prog 32 #[J a,J b] m (J (A3k a b)):=by
 refine C6 func32 r' ntmps32 fun wld=>q' 13 r'<|y' (A6Z rfl rfl)<|v' 4 r'<|A0 r' r'<|A7 ?_
 first|rfl|(simp[*];done)
theorem C2D(m:Mem)(b:Int)(s:Int)(r:Int)(hb: -200000≤b∧b≤200000)(hr: -200000≤r∧r≤200000):Exact prog 30 #[J b,J s,J r] m (J (Y4 b s r)):=by
 refine C6 func30 r' ntmps30 fun wld=>q' 11 r'<|y' (A6Z rfl rfl)<|v' 3 r'<|y' (B0J rfl rfl)<|v' 4 r'<|A0 r' r'<|A7 ?_
 first|rfl|(simp[*];done)
theorem C0I(m:Mem)(vl:Value)(l:List Span)(hl:Sl m vl l)(n:Int):Exact prog 29 #[vl,J n] m (.bool (decide (inP l n))):=by
 refine have ll:=hl.le;C6 func29 r' ntmps29 fun wld=>q' 12 r' ?_
 refine I0 (fun(k:Nat)=>l.length-k) (fun k=>[]) (fun k=>[(0,vl),(1,J n),(5,J k)]) (fun k=>k≤l.length∧(∀j,j<k→¬((gt l j).Lo≤n∧n≤(gt l j).Hi))) 0 ?_ ?_
 ·exact⟨Nat.zero_le _,fun j hj=>absurd hj (Nat.not_lt_zero _)⟩
 rintro k ⟨hk,hall⟩
 refine q' 5 r'<|l' hl r'<|c' (X.lss r' r') (fun h2=>?_) fun h2=>?_
 ·refine v' 11 r'<|x' k hl r' r' fun p3 hp4=>have hp5:=Z3 hp4;f' r' t'<|i' hp5 r'<|v' 1 r'<|c' (X.leq r' r') (fun h6=>?_) fun h6=>?_
  ·refine v' 8 r'<|x' k hl r' r' fun p7 hp8=>v' 1 r'<|have hp9:=W4 hp8;f' r' t'<|v' 1 r'<|i' hp9 r'<|v' 1 r'<|c' (X.leq r' r') (fun h10=>?_) fun h10=>?_
   ·refine v' 15 r'<|A0 r' r'<|A7 ?_
    first|exact C7 ⟨k,by omega,by omega⟩|exact A9 (fun⟨j,hj,h_⟩=>hall j (by omega) h_)
   exact v' 13 r'<|G4 (k+1)<|⟨by omega,fun j hj=>by rcases Nat.lt_succ_iff_lt_or_eq.1 hj with h|h;exact hall j h;subst h;omega⟩
  exact v' 21 r'<|G4 (k+1)<|⟨by omega,fun j hj=>by rcases Nat.lt_succ_iff_lt_or_eq.1 hj with h|h;exact hall j h;subst h;omega⟩
 refine v' 14 r'<|A0 r' r'<|A7 ?_
 first|exact C7 ⟨k,by omega,by omega⟩|exact A9 (fun⟨j,hj,h_⟩=>hall j (by omega) h_)
theorem C6g(m:Mem)(va:Value)(a:List Int)(ha:Sl m va a)(vb:Value)(b:List Int)(hb:Sl m vb b):Exact prog 27 #[va,vb] m (.bool (decide (a=b))):=by
 refine have la:=ha.le;have lb:=hb.le;C6 func27 r' ntmps27 fun wld=>q' 9 r'<|l' ha r'<|v' 1 r'<|l' hb r'<|e' (X.neq r' r') (fun h1=>?_) fun h1=>?_
 ·exact v' 10 r'<|A0 r' r'<|A7<|A9 (fun e=>by subst e;omega)
 refine v' 12 r' ?_
 refine I0 (fun(k:Nat)=>a.length-k) (fun k=>[]) (fun k=>[(0,va),(1,vb),(5,J k)]) (fun k=>k≤a.length∧(∀j,j<k→gt a j=gt b j)) 0 ?_ ?_
 ·exact⟨Nat.zero_le _,fun j hj=>absurd hj (Nat.not_lt_zero _)⟩
 rintro k ⟨hk,hall⟩
 refine q' 5 r'<|l' ha r'<|c' (X.lss r' r') (fun h3=>?_) fun h3=>?_
 ·refine v' 8 r'<|B4 9 [] []<|U' 2 r'<|X' k ha r' r' r' r' fun p4 hp5=>Y' r' r' (A.i r' hp5)<|U' 2 r'<|X' k hb r' r' r' r' fun p6 hp7=>Y' r' r' (A.i r' hp7) ?_
  refine A0a rfl rfl (X.neq rfl rfl) (by decide) (fun h8=>?_) (fun h8=>?_)
  ·exact V' 13 r'<|A0 r' r'<|A7<|A9 (fun e=>by subst e;contradiction)
  exact V' 11 r'<|G4 (k+1)<|⟨by omega,fun j hj=>by rcases Nat.lt_succ_iff_lt_or_eq.1 hj with h|h;exact hall j h;subst h;(first|assumption|(apply Classical.byContradiction;assumption))⟩
 exact v' 14 r'<|A0 r' r'<|A7<|C7 (A1D (by omega) (fun j hj=>hall j (by omega)))
theorem C2r(m:Mem)(va:Value)(a:List Int)(ha:Sl m va a)(vb:Value)(b:List Int)(hb:Sl m vb b):Exact prog 9 #[va,vb] m (.bool (decide (a=b))):=by
 refine have la:=ha.le;have lb:=hb.le;C6 func9 r' ntmps9 fun wld=>q' 9 r'<|y' (X.call call27 rfl (C6g _ _ _ ha _ _ hb))<|v' 4 r'<|A0 r' r'<|A7 ?_
 first|rfl|(simp[*];done)
theorem B2Z(m:Mem)(n:Int):Exact prog 130 #[J n] m (.bool (decide (-50000≤n∧n≤50000))):=by
 refine C6 func130 r' ntmps130 fun wld=>q' 8 r'<|y' (X.call call26 rfl (A4o _ _ _ _))<|v' 4 r'<|A0 r' r'<|A7 ?_
 first|rfl|(simp[*];done)
theorem B7d(m:Mem)(n:Int):Exact prog 129 #[J n] m (.bool (decide (¬(-50000≤n∧n≤50000)))):=by
 refine C6 func129 r' ntmps129 fun wld=>q' 8 r'<|y' (X.call call130 rfl (B2Z _ _))<|y' (A0m rfl)<|v' 4 r'<|A0 r' r'<|A7 ?_
 first|rfl|(simp[*];done)
theorem B6x(m:Mem)(n:Int):Exact prog 131 #[J n] m (.bool (decide (¬(-50000≤n∧n≤50000)))):=by
 refine C6 func131 r' ntmps131 fun wld=>q' 8 r'<|y' (X.call call130 rfl (B2Z _ _))<|y' (A0m rfl)<|v' 4 r'<|A0 r' r'<|A7 ?_
 first|rfl|(simp[*];done)
theorem B3a(m:Mem){v:Value}{l:List Int}(hl:Sl m v l):Exact prog 176 #[v,Fc 129] m (J (A7a l)):=by
 refine have hll:=hl.le;C6 func176 r' ntmps176 fun wld=>q' 9 r'<|l' hl r'<|v' 4 r' ?_
 refine I0 (fun(k:Nat)=>l.length-k) (fun k=>[]) (fun k=>[(0,v),(1,.func (.func 129) #[] [].toArray),(7,J l.length),(8,J k)]) (fun k=>k≤l.length∧(∀j,j<k→-50000≤gt l j∧gt l j≤50000)) 0 ?_ ?_
 ·exact⟨Nat.zero_le _,fun j hj=>absurd hj (Nat.not_lt_zero _)⟩
 rintro k ⟨hk,hall⟩
 refine q' 2 r'<|c' (X.lss r' r') (fun h2=>?_) fun h2=>?_
 ·refine v' 19 r'<|x' k hl r' r' fun p3 hp4=>i' hp4 r'<|e' (D6 call129 rfl rfl (B7d _ (gt l k))) (fun h5=>?_) fun h5=>?_
  ·refine v' 15 r'<|A0 r' r'<|A7 ?_
   first|exact A8 (A2D (by omega) hall (by assumption)).symm|exact A8 (A3p (fun j hj=>hall j (by omega))).symm
  exact v' 11 r'<|G4 (k+1)<|⟨by omega,fun j hj=>by rcases Nat.lt_succ_iff_lt_or_eq.1 hj with h|h;exact hall j h;subst h;(first|assumption|(apply Classical.byContradiction;assumption))⟩
 refine v' 15 r'<|A0 r' r'<|A7 ?_
 first|exact A8 (A2D (by omega) hall (by assumption)).symm|exact A8 (A3p (fun j hj=>hall j (by omega))).symm
theorem B4k(m:Mem){v:Value}{l:List Int}(hl:Sl m v l):Exact prog 176 #[v,Fc 131] m (J (A7a l)):=by
 refine have hll:=hl.le;C6 func176 r' ntmps176 fun wld=>q' 9 r'<|l' hl r'<|v' 4 r' ?_
 refine I0 (fun(k:Nat)=>l.length-k) (fun k=>[]) (fun k=>[(0,v),(1,.func (.func 131) #[] [].toArray),(7,J l.length),(8,J k)]) (fun k=>k≤l.length∧(∀j,j<k→-50000≤gt l j∧gt l j≤50000)) 0 ?_ ?_
 ·exact⟨Nat.zero_le _,fun j hj=>absurd hj (Nat.not_lt_zero _)⟩
 rintro k ⟨hk,hall⟩
 refine q' 2 r'<|c' (X.lss r' r') (fun h2=>?_) fun h2=>?_
 ·refine v' 19 r'<|x' k hl r' r' fun p3 hp4=>i' hp4 r'<|e' (D6 call131 rfl rfl (B6x _ (gt l k))) (fun h5=>?_) fun h5=>?_
  ·refine v' 15 r'<|A0 r' r'<|A7 ?_
   first|exact A8 (A2D (by omega) hall (by assumption)).symm|exact A8 (A3p (fun j hj=>hall j (by omega))).symm
  exact v' 11 r'<|G4 (k+1)<|⟨by omega,fun j hj=>by rcases Nat.lt_succ_iff_lt_or_eq.1 hj with h|h;exact hall j h;subst h;(first|assumption|(apply Classical.byContradiction;assumption))⟩
 refine v' 15 r'<|A0 r' r'<|A7 ?_
 first|exact A8 (A2D (by omega) hall (by assumption)).symm|exact A8 (A3p (fun j hj=>hall j (by omega))).symm
theorem B0S(m:Mem){v:Value}{l:List Int}(hl:Sl m v l):Exact prog 97 #[v,Fc 129] m (.bool (decide (¬A2r l))):=by
 exact C6 func97 r' ntmps97 fun wld=>q' 9 r'<|y' (X.call call176 rfl (B3a _ hl))<|v' 5 r'<|A0 r' r'<|A7<|D5 (A9K l)
theorem B0j(m:Mem){v:Value}{l:List Int}(hl:Sl m v l):Exact prog 97 #[v,Fc 131] m (.bool (decide (¬A2r l))):=by
 exact C6 func97 r' ntmps97 fun wld=>q' 9 r'<|y' (X.call call176 rfl (B4k _ hl))<|v' 5 r'<|A0 r' r'<|A7<|D5 (A9K l)
theorem A7v{G:Prop}(h:G:=by first|exact A8 (by unfold J1;rw[if_pos ⟨by omega,by first|assumption|(apply Classical.byContradiction;assumption)⟩])|exact A8 (by unfold J1;rw[if_neg (fun h_=>by have h1_:=h_.1;omega)])|exact A8 (by unfold J1;rw[if_neg (fun h_=>absurd h_.2 (by assumption))])):G:=h
theorem B3U(m:Mem)(vl:Value)(l:List Int)(hl:Sl m vl l):Exact prog 69 #[vl] m (J (J1 l)):=by
 refine have ll:=hl.le;C6 func69 r' ntmps69 fun wld=>q' 9 r'<|l' hl r'<|c' (X.call call26 rfl (A4o _ _ _ _)) (fun h1=>?_) fun h1=>?_
 ·refine v' 5 r'<|e' (X.call call97 rfl (B0j _ hl)) (fun h2=>?_) fun h2=>?_
  ·exact v' 11 r'<|A0 r' r'<|A7<|A7v
  exact v' 12 r'<|A0 r' r'<|A7<|A7v
 exact v' 15 r'<|A0 r' r'<|A7<|A7v
theorem C1U(m:Mem)(cp:List Value)(p:Pen)(hp:Enc.rd m cp p)(vl:Value)(l:List Int)(hl:Sl m vl l):Exact prog 31 #[.agg cp.toArray,vl] m (J (O8 p l)):=by
 obtain rfl:=hp
 refine have ll:=hl.le;C6 func31 r' ntmps31 fun wld=>q' 2 r'<|o' r' r' fun b1=>v' 6 r'<|a' 0 r' r'<|y' (X.call call8 rfl (A9U _ _ p rfl))<|v' 6 r'<|e' (X.neq r' r') (fun h2=>?_) fun h2=>?_
 ·refine v' 11 r'<|A0 r' r'<|A7 ?_
  first|exact A8 (by unfold O8;rw[if_pos (by omega)])|exact A8 (by unfold O8;rw[if_neg (by omega)])
 refine v' 8 r'<|y' (X.call call69 rfl (B3U _ _ _ hl))<|v' 4 r'<|A0 r' r'<|A7 ?_
 first|exact A8 (by unfold O8;rw[if_pos (by omega)])|exact A8 (by unfold O8;rw[if_neg (by omega)])
theorem A6r{G:Prop}(h:G:=by first|exact A8 (by unfold S6;rw[if_pos (by omega)])|exact A8 (by unfold S6;rw[if_neg (by omega),if_pos (by first|assumption|(apply Classical.byContradiction;assumption))])|exact A8 (by unfold S6;rw[if_neg (by omega),if_neg (by assumption)])):G:=h
theorem C3g(m:Mem)(cp:List Value)(p:Pen)(hp:Enc.rd m cp p)(vl:Value)(l:List Int)(hl:Sl m vl l):Exact prog 68 #[.agg cp.toArray,vl] m (J (S6 p l)):=by
 obtain rfl:=hp
 refine have ll:=hl.le;C6 func68 r' ntmps68 fun wld=>q' 2 r'<|o' r' r' fun b1=>v' 6 r'<|a' 0 r' r'<|y' (X.call call8 rfl (A9U _ _ p rfl))<|v' 6 r'<|e' (X.neq r' r') (fun h2=>?_) fun h2=>?_
 ·exact v' 11 r'<|A0 r' r'<|A7<|A6r
 refine v' 9 r'<|e' (X.call call97 rfl (B0S _ hl)) (fun h3=>?_) fun h3=>?_
 ·exact v' 10 r'<|A0 r' r'<|A7<|A6r
 exact v' 11 r'<|A0 r' r'<|A7<|A6r
theorem B3O(m:Mem)(x:Int):Exact prog 169 #[J x] m (.bool false):=by
 refine C6 func169 r' ntmps169 fun wld=>q' 9 r'<|y' (A1G (X.neq rfl rfl) (fun h=>h rfl))<|v' 4 r'<|A0 r' r'<|A7 ?_
 first|rfl|(simp[*];done)
theorem C2H(m:Mem)(x:Int)(y:Int):Exact prog 280 #[J x,J y] m (.bool (decide (x<y))):=by
 refine C6 func280 r' ntmps280 fun wld=>q' 8 r'<|y' (X.call call169 rfl (B3O _ _))<|v' 17 r'<|A0 r' r'<|A7 ?_
 first|rfl|(simp[*];done)
end Go.Proofs.T10
namespace Go.Proofs.T10
open Tryz
set_option maxRecDepth 20000
open Go Go.Kx
theorem C6s(m:Mem){z:Int}(hz:0≤z∧z≤255):Pure prog 273 #[.int .u64 z] m (fun _ u=>∃r:Int,(0≤r∧r≤255)∧u=J r):=by
 exact H7 func273 r' ntmps273 fun wld=>q' 9 r'<|y' (A1G (X.geq rfl rfl) (by omega))<|v' 9 r'<|y' (A1G (X.geq rfl rfl) (by omega))<|v' 9 r'<|y' (A1G (X.geq rfl rfl) (by omega))<|v' 9 r'<|y' (L8 runUnderlying410 runUnderlying5 rfl (A4g (by omega) (by omega)))<|P1 (C1C 256 runUnderlying9 rfl rfl (by kernel_rfl) (by omega) (by omega)) (by decide) fun z1 h2=>y' (L8 runUnderlying5 runUnderlying3 rfl (M9 (by omega) (by omega)))<|v' 5 r'<|A0 r' r'<|C4<|⟨_,by omega,rfl⟩
theorem C5b(m:Mem){z:Int}(hz:0≤z∧z≤255):Pure prog 225 #[.int .u64 z] m (fun _ u=>∃r:Int,(0≤r∧r≤255)∧u=J r):=by
 refine H7 func225 r' ntmps225 fun wld=>q' 12 r' ?_
 refine D1 (T.call call273 rfl (C6s _ (z:=z) (by omega))) (by decide) (fun m1 _ hle2 hR_=>?_)
 obtain⟨z3,h4,rfl⟩:=hR_
 exact v' 4 r'<|A0 r' r'<|C4<|⟨_,by omega,rfl⟩
theorem C5H(m:Mem){v:Value}{L:List Int}(hL:L.length≤12){z0 zb:Int}(hz0:z0=0)(hz:zb=L.length):Mut prog 274 #[v,J z0,J zb] m [A5 v 3 L] (fun _ Es u=>u= .tuple #[]∧∃R,Es=[A5 v 3 R]∧R.Perm L∧Srt id R 0 L.length):=by
 subst hz0 hz
 refine G2 func274 r' ntmps274 fun wld=>q' 8 r' ?_
 refine O3 (fun(i:Nat) (R:List Int)=>L.length-i) (fun i R=>[A5 (v) 3 (R)]) (fun i R=>[(0,v),(1,J 0),(2,J L.length),(6,J i)]) (fun i R=>1≤i∧R.Perm L∧Srt id R 0 i) 1 L ?_ ?_
 ·exact⟨Nat.le_refl _,.refl _,.one id _ 0⟩
 rintro i R ⟨hi,hP,hT⟩
 refine have hPl:=hP.length_eq;q' 5 r'<|c' (X.lss r' r') (fun h2=>?_) fun h2=>?_
 ·refine v' 14 r' ?_
  refine O3 (fun(j:Nat) (R:List Int)=>j) (fun j R=>[A5 (v) 3 (R)]) (fun j R=>[(0,v),(1,J 0),(2,J L.length),(6,J i),(7,J j)]) (fun j R=>InsI id L R 0 i j) i R ?_ ?_
  ·exact B9j hP hT (by omega)
  rintro j R hF3
  try dsimp only at hF3
  refine have hI:=hF3;have hIl:=hI.perm.length_eq;have hIb:=hI.bd;q' 2 r'<|B4 15 [] []<|U' 2 r'<|C' r' r' (X.gtr r' r') (fun h4=>?_) fun h4=>?_
  ·refine U' 3 r'<|Y' r' r' (A4d (k:=0) j runUnderlying27 sizeOf3 rfl rfl rfl (by omega) (by first|omega|(simp;omega)|simp))<|Y' r' r' (A1d (k:=0) (i:=j) isAgg3 rfl rfl (by first|omega|(simp;omega)|simp))<|U' 3 r'<|Y' r' r' (A4d (k:=0) (j-1) runUnderlying27 sizeOf3 rfl rfl rfl (by omega) (by first|omega|(simp;omega)|simp))<|Y' r' r' (A1d (k:=0) (i:=(j-1)) isAgg3 rfl rfl (by first|omega|(simp;omega)|simp))<|C' r' r' (X.call call280 rfl (C2H _ _ _)) (fun h5=>?_) fun h5=>?_
   ·refine U' 1 r'<|V' 6 r'<|B4 18 [15,17] [15,17,100004]<|U' 4 r'<|H5 r' r' r' (fun _ _ hle_=>(X.sub rfl rfl (by omega) (by omega))) (by decide)<|U' 3 r'<|Y' r' r' (A4d (k:=0) (j-1) runUnderlying27 sizeOf3 rfl rfl rfl (by omega) (by first|omega|(simp;omega)|simp))<|Y' r' r' (A1d (k:=0) (i:=(j-1)) isAgg3 rfl rfl (by first|omega|(simp;omega)|simp))<|U' 2 r'<|Y' r' r' (A4d (k:=0) j runUnderlying27 sizeOf3 rfl rfl rfl (by omega) (by first|omega|(simp;omega)|simp))<|Y' r' r' (A1d (k:=0) (i:=j) isAgg3 rfl rfl (by first|omega|(simp;omega)|simp))<|Y' r' r' (A4d (k:=0) j runUnderlying27 sizeOf3 rfl rfl rfl (by omega) (by first|omega|(simp;omega)|simp))<|B3 r' r' r' r' (A5U (k:=0) (i:=j) sizeOf3 rfl rfl rfl (by first|omega|(simp;omega)|simp))<|Y' r' r' (A4d (k:=0) (j-1) runUnderlying27 sizeOf3 rfl rfl rfl (by omega) (by first|omega|(simp;omega)|simp))<|B3 r' r' r' r' (A5U (k:=0) (i:=(j-1)) sizeOf3 rfl rfl rfl (by first|omega|(simp;omega)|simp))<|V' 8 r' ?_
    obtain⟨j1_,hj1_⟩:∃qq__:Nat,(↑j-1:Int)=(qq__:Int):=⟨(↑j-1:Int).toNat,(by omega)⟩
    rw[hj1_]
    obtain rfl:j1_=j-1:=(by omega)
    exact J5 (j-1) ((R.set j (gt R ((j-1)))).set ((j-1)) (gt R j))<|C1N hI (by omega) (by assumption)
   refine U' 1 r'<|V' 8 r' ?_
   have hfin:=B4R hI (fun h_ hc_=>by first|omega|contradiction)
   exact q' 6 r'<|J5 (i+1) R<|⟨by omega,hfin.1,hfin.2⟩
  refine U' 12 r'<|V' 8 r' ?_
  have hfin:=B4R hI (fun h_ hc_=>by first|omega|contradiction)
  exact q' 6 r'<|J5 (i+1) R<|⟨by omega,hfin.1,hfin.2⟩
 refine v' 7 r'<|D8 r'<|G0 ?_
 refine⟨rfl,R,rfl,hP,?_⟩
 intro p q h1_ h2_ h3_
 exact hT p q h1_ h2_ (by omega)
theorem C5n(m:Mem){v:Value}{L:List Int}(hL:L.length≤12){z0 zb zl:Int}(hz0:z0=0)(hz:zb=L.length):Mut prog 226 #[v,J z0,J zb,J zl] m [A5 v 3 L] (fun _ Es u=>u= .tuple #[]∧∃R,Es=[A5 v 3 R]∧R.Perm L∧Srt id R 0 L.length):=by
 subst hz0 hz
 refine G2 func226 r' ntmps226 fun wld=>q' 11 r' ?_
 refine I0 (fun(u_:Unit)=>0) (fun u_=>[A5 (v) 3 (L)]) (fun u_=>[(0,v),(1,J 0),(2,J L.length),(3,J zl),(8,.bool true),(9,.bool true)]) (fun u_=>True) () ?_ ?_
 ·trivial
 rintro u_ hF1
 refine have hT_:=hF1;q' 13 r'<|y' (A1k (X.leq rfl rfl) (by omega))<|v' 8 r' ?_
 refine C1 (C3 (A:=[]) call274 rfl (.refl _) (C5H _ (L:=L) (by omega) (by omega) (by omega))) (by decide) (fun m2 Es_ _ hle3 hR_=>?_)
 obtain⟨rfl,R4,rfl,hR5⟩:=hR_
 exact v' 7 r'<|F0 r'<|G0<|⟨rfl,_,rfl,hR5⟩
theorem C2O(m:Mem){v:Value}{L:List Int}(hL:L.length≤12):Mut prog 150 #[v] m [A5 v 3 L] (fun _ Es u=>u= .tuple #[]∧∃R,Es=[A5 v 3 R]∧R.Perm L∧Srt id R 0 L.length):=by
 refine G2 func150 r' ntmps150 fun wld=>q' 3 r'<|y' (S2 (k:=0) runUnderlying27 rfl rfl)<|v' 7 r'<|y' (L8 runUnderlying3 runUnderlying358 rfl (Q2 (by omega) (by omega))) ?_
 refine D1 (T.call call225 rfl (C5b _ (z:=↑L.length) (by omega))) (by decide) (fun m1 _ hle2 hR_=>?_)
 obtain⟨z3,h4,rfl⟩:=hR_
 refine C1 (C3 (A:=[]) call226 rfl (.refl _) (C5n _ (L:=L) (by omega) (by omega) (by omega))) (by decide) (fun m5 Es_ _ hle6 hR_=>?_)
 obtain⟨rfl,R7,rfl,hR8⟩:=hR_
 exact v' 1 r'<|D8 r'<|G0<|⟨rfl,_,rfl,hR8⟩
theorem C1D(m:Mem){v:Value}{x y z:Int}:Mut prog 79 #[v] m [A5 v 3 [x,y,z]] (fun _ Es u=>Es=[]∧u=J (max (min x y) (min (max x y) z))):=by
 refine G2 func79 r' ntmps79 fun wld=>q' 8 r' ?_
 refine C1 (C3 (A:=[]) call150 rfl (.refl _) (C2O _ (L:=[x,y,z]) (by first|omega|(simp;done)|decide))) (by decide) (fun m1 Es_ _ hle2 hR_=>?_)
 obtain⟨rfl,R3,rfl,hR4⟩:=hR_
 refine v' 3 r' ?_
 have hl3_:R3.length=3:=hR4.1.length_eq
 refine have hmd_:=B9e hR4.1 hR4.2;q' 3 r'<|y' (S2 (k:=0) runUnderlying27 rfl rfl)<|y' (X.quo rfl rfl (by omega) (by omega) (by omega))<|y' (A3w (k:=0) runUnderlying27 sizeOf3 rfl rfl rfl (by first|omega|(simp;omega)|simp) (by first|omega|(simp;omega)|simp))<|y' (A1d (k:=0) (i:=(↑R3.length/2:Int).toNat) isAgg3 rfl rfl (by first|omega|(simp;omega)|simp))<|v' 4 r' ?_
 refine A0 rfl rfl (fun w' hw'=>B8 (hw'.weaken (.cons _ .slnil)) ?_)
 refine⟨rfl,A8 ?_⟩
 rw[←hmd_]
 congr 1
 omega
theorem C4Q(m:Mem)(cp:List Value)(p:Pen)(hp:Enc.rd m cp p)(s:Int)(r:Int)(hb:0≤p.Band∧p.Band≤8)(hr: -200000≤r∧r≤200000):Exact prog 33 #[.agg cp.toArray,J s,J r] m (J (Y4 p.Band s r)):=by
 obtain rfl:=hp
 refine C6 func33 r' ntmps33 fun wld=>q' 2 r'<|o' r' r' fun b1=>v' 7 r'<|f' r' t'<|f' r' t'<|b' 0 r' r' r'<|v' 2 r'<|f' r' t'<|f' r' t'<|b' 0 r' r' r'<|v' 1 r' ?_
 refine G7 (B8X (vals:=[J s,J (r-p.Band),J (r+p.Band)]) (L:=[s,r-p.Band,r+p.Band]) K8 rfl rfl (by intro v hv;simp at hv;rcases hv with rfl|rfl|rfl <;> rfl) rfl rfl rfl) (by decide) (fun v2=>?_)
 refine C1 (C3 (A:=[blk b1 113 [J p.Band,J p.Zero.Lo,J p.Zero.Hi,J p.Rate]]) call79 rfl (.refl _) (C1D _)) (by decide) (fun m3 Es_ _ hle4 hR_=>?_)
 obtain⟨rfl,rfl⟩:=hR_
 exact v' 4 r'<|A0 r' r'<|A7<|A8 (by unfold Y4;omega)
end Go.Proofs.T10
