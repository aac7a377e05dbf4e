import Derived.Test.YtooomcigmleneaaGreatKxW
import Derived.Test.YtooomcigmleneaaGreatKyP
import Derived.Test.YtooomcigmleneaaGreatT10Ty
import Derived.Test.YtooomcigmleneaaGreatKxU
import Derived.Test.YtooomcigmleneaaGreatT10Set
import Derived.Test.YtooomcigmleneaaGreatKxQ
import Derived.KernelRfl
import Derived.Test.YtooomcigmleneaaGreatT10Ink2
set_option linter.all false
set_option maxHeartbeats 1000000
namespace Go.Proofs.T10
open Tryz
set_option maxRecDepth 20000
open Go Go.Kx
theorem A4H(m:Mem)(n:Int)(lo:Int)(hi:Int):Exact prog 26 #[J n,J lo,J hi] m (.bool (decide (lo≤n∧n≤hi))):=by
 refine C7 func26 r' ntmps26 fun wld=>q' 9 r'<|c' (X.geq r' r') (fun h1=>?_) fun h1=>?_
 ·refine v' 12 r'<|A0 r' r'<|A7 ?_
  first|exact C9 (by omega)|exact A9 (by omega)|exact D5 (by omega)
 refine v' 9 r'<|A0 r' r'<|A7 ?_
 first|exact C9 (by omega)|exact A9 (by omega)|exact D5 (by omega)
theorem A2o{G:Prop}(h:G:=by first|exact A8 (C3Z (by unfold Y3;omega)).symm|exact A8 (A8E (by unfold Y3;omega)).symm):G:=h
theorem A9u(m:Mem)(cp:List Value)(p:Pen)(hp:Enc.rd m cp p):Exact prog 8 #[.agg cp.toArray] m (J (A5l p)):=by
 obtain rfl:=hp
 refine C7 func8 r' ntmps8 fun wld=>q' 2 r'<|o' r' r' fun b1=>v' 5 r'<|f' r' t'<|y' (J2 (k:=0) (vs:=[J p.Zero.Lo,J p.Zero.Hi]) isAgg23 sizeOf23 rfl rfl rfl rfl)<|n' zeroValue23 r' fun b2=>w' 0 r' r' r'<|v' 5 r'<|f' r' t'<|b' 1 r' r' r'<|c' (X.call call26 rfl (A4H _ _ _ _)) (fun h3=>?_) fun h3=>?_
 ·refine v' 3 r'<|f' r' t'<|v' 1 r'<|b' 0 r' r' r'<|v' 1 r'<|f' r' t'<|v' 1 r'<|b' 0 r' r' r'<|v' 1 r'<|c' (X.call call26 rfl (A4H _ _ _ _)) (fun h4=>?_) fun h4=>?_
  ·refine v' 5 r'<|f' r' t'<|v' 1 r'<|b' 0 r' r' r'<|v' 1 r'<|c' (X.gtr r' r') (fun h5=>?_) fun h5=>?_
   ·exact v' 25 r'<|A0 r' r'<|A7<|A2o
   refine v' 3 r'<|f' r' t'<|v' 1 r'<|b' 0 r' r' r'<|v' 1 r'<|f' r' t'<|v' 1 r'<|b' 0 r' r' r'<|v' 3 r'<|c' (X.gtr r' r') (fun h6=>?_) fun h6=>?_
   ·exact v' 17 r'<|A0 r' r'<|A7<|A2o
   refine v' 3 r'<|f' r' t'<|v' 1 r'<|b' 1 r' r' r'<|v' 1 r'<|c' (X.call call26 rfl (A4H _ _ _ _)) (fun h7=>?_) fun h7=>?_
   ·exact v' 14 r'<|A0 r' r'<|A7<|A2o
   exact v' 13 r'<|A0 r' r'<|A7<|A2o
  exact v' 32 r'<|A0 r' r'<|A7<|A2o
 exact v' 38 r'<|A0 r' r'<|A7<|A2o
theorem B5F(m:Mem)(a:Int)(b:Int)(ha: -200000≤a∧a≤200000)(hb: -200000≤b∧b≤200000):Exact prog 32 #[J a,J b] m (J (A3H a b)):=by
 refine C7 func32 r' ntmps32 fun wld=>q' 13 r'<|y' (A7b rfl rfl)<|v' 4 r'<|A0 r' r'<|A7 ?_
 first|rfl|(simp[*];done)
theorem C3m(m:Mem)(b:Int)(s:Int)(r:Int)(hb: -200000≤b∧b≤200000)(hr: -200000≤r∧r≤200000):Exact prog 30 #[J b,J s,J r] m (J (Z6 b s r)):=by
 refine C7 func30 r' ntmps30 fun wld=>q' 11 r'<|y' (A7b rfl rfl)<|v' 3 r'<|y' (B0Q rfl rfl)<|v' 4 r'<|A0 r' r'<|A7 ?_
 first|rfl|(simp[*];done)
theorem C0f(m:Mem)(vl:Value)(l:List Span)(hl:Sl m vl l)(n:Int):Exact prog 29 #[vl,J n] m (.bool (decide (inP l n))):=by
 refine have ll:=hl.le;C7 func29 r' ntmps29 fun wld=>q' 12 r' ?_
 refine I0 (fun(k:Nat)=>l.length-k) (fun k=>[]) (fun k=>[(0,vl),(1,J n),(5,J k)]) (fun k=>k≤l.length∧(∀j,j<k→¬((gt l j).Lo≤n∧n≤(gt l j).Hi))) 0 ?_ ?_
 ·exact⟨Nat.zero_le _,fun j hj=>absurd hj (Nat.not_lt_zero _)⟩
 rintro k ⟨hk,hall⟩
 refine q' 5 r'<|l' hl r'<|c' (X.lss r' r') (fun h2=>?_) fun h2=>?_
 ·refine v' 11 r'<|x' k hl r' r' fun p3 hp4=>have hp5:=Z0 hp4;f' r' t'<|i' hp5 r'<|v' 1 r'<|c' (X.leq r' r') (fun h6=>?_) fun h6=>?_
  ·refine v' 8 r'<|x' k hl r' r' fun p7 hp8=>v' 1 r'<|have hp9:=W3 hp8;f' r' t'<|v' 1 r'<|i' hp9 r'<|v' 1 r'<|c' (X.leq r' r') (fun h10=>?_) fun h10=>?_
   ·refine v' 15 r'<|A0 r' r'<|A7 ?_
    first|exact C9 ⟨k,by omega,by omega⟩|exact A9 (fun⟨j,hj,h_⟩=>hall j (by omega) h_)
   exact v' 13 r'<|G5 (k+1)<|⟨by omega,fun j hj=>by rcases Nat.lt_succ_iff_lt_or_eq.1 hj with h|h;exact hall j h;subst h;omega⟩
  exact v' 21 r'<|G5 (k+1)<|⟨by omega,fun j hj=>by rcases Nat.lt_succ_iff_lt_or_eq.1 hj with h|h;exact hall j h;subst h;omega⟩
 refine v' 14 r'<|A0 r' r'<|A7 ?_
 first|exact C9 ⟨k,by omega,by omega⟩|exact A9 (fun⟨j,hj,h_⟩=>hall j (by omega) h_)
theorem C5d(m:Mem)(va:Value)(a:List Int)(ha:Sl m va a)(vb:Value)(b:List Int)(hb:Sl m vb b):Exact prog 27 #[va,vb] m (.bool (decide (a=b))):=by
 refine have la:=ha.le;have lb:=hb.le;C7 func27 r' ntmps27 fun wld=>q' 9 r'<|l' ha r'<|v' 1 r'<|l' hb r'<|e' (X.neq r' r') (fun h1=>?_) fun h1=>?_
 ·exact v' 10 r'<|A0 r' r'<|A7<|A9 (fun e=>by subst e;omega)
 refine v' 12 r' ?_
 refine I0 (fun(k:Nat)=>a.length-k) (fun k=>[]) (fun k=>[(0,va),(1,vb),(5,J k)]) (fun k=>k≤a.length∧(∀j,j<k→gt a j=gt b j)) 0 ?_ ?_
 ·exact⟨Nat.zero_le _,fun j hj=>absurd hj (Nat.not_lt_zero _)⟩
 rintro k ⟨hk,hall⟩
 refine q' 5 r'<|l' ha r'<|c' (X.lss r' r') (fun h3=>?_) fun h3=>?_
 ·refine v' 8 r'<|B4 9 [] []<|U' 2 r'<|X' k ha r' r' r' r' fun p4 hp5=>Y' r' r' (A.i r' hp5)<|U' 2 r'<|X' k hb r' r' r' r' fun p6 hp7=>Y' r' r' (A.i r' hp7) ?_
  refine A0h rfl rfl (X.neq rfl rfl) (by decide) (fun h8=>?_) (fun h8=>?_)
  ·exact V' 13 r'<|A0 r' r'<|A7<|A9 (fun e=>by subst e;contradiction)
  exact V' 11 r'<|G5 (k+1)<|⟨by omega,fun j hj=>by rcases Nat.lt_succ_iff_lt_or_eq.1 hj with h|h;exact hall j h;subst h;(first|assumption|(apply Classical.byContradiction;assumption))⟩
 exact v' 14 r'<|A0 r' r'<|A7<|C9 (A1P (by omega) (fun j hj=>hall j (by omega)))
theorem C2D(m:Mem)(va:Value)(a:List Int)(ha:Sl m va a)(vb:Value)(b:List Int)(hb:Sl m vb b):Exact prog 9 #[va,vb] m (.bool (decide (a=b))):=by
 refine have la:=ha.le;have lb:=hb.le;C7 func9 r' ntmps9 fun wld=>q' 9 r'<|y' (X.call call27 rfl (C5d _ _ _ ha _ _ hb))<|v' 4 r'<|A0 r' r'<|A7 ?_
 first|rfl|(simp[*];done)
theorem B3v(m:Mem)(n:Int):Exact prog 130 #[J n] m (.bool (decide (-50000≤n∧n≤50000))):=by
 refine C7 func130 r' ntmps130 fun wld=>q' 8 r'<|y' (X.call call26 rfl (A4H _ _ _ _))<|v' 4 r'<|A0 r' r'<|A7 ?_
 first|rfl|(simp[*];done)
theorem B6V(m:Mem)(n:Int):Exact prog 129 #[J n] m (.bool (decide (¬(-50000≤n∧n≤50000)))):=by
 refine C7 func129 r' ntmps129 fun wld=>q' 8 r'<|y' (X.call call130 rfl (B3v _ _))<|y' (A0l rfl)<|v' 4 r'<|A0 r' r'<|A7 ?_
 first|rfl|(simp[*];done)
theorem B6S(m:Mem)(n:Int):Exact prog 131 #[J n] m (.bool (decide (¬(-50000≤n∧n≤50000)))):=by
 refine C7 func131 r' ntmps131 fun wld=>q' 8 r'<|y' (X.call call130 rfl (B3v _ _))<|y' (A0l rfl)<|v' 4 r'<|A0 r' r'<|A7 ?_
 first|rfl|(simp[*];done)
theorem B3Q(m:Mem){v:Value}{l:List Int}(hl:Sl m v l):Exact prog 176 #[v,Fc 129] m (J (A7H l)):=by
 refine have hll:=hl.le;C7 func176 r' ntmps176 fun wld=>q' 9 r'<|l' hl r'<|v' 4 r' ?_
 refine I0 (fun(k:Nat)=>l.length-k) (fun k=>[]) (fun k=>[(0,v),(1,.func (.func 129) #[] [].toArray),(7,J l.length),(8,J k)]) (fun k=>k≤l.length∧(∀j,j<k→-50000≤gt l j∧gt l j≤50000)) 0 ?_ ?_
 ·exact⟨Nat.zero_le _,fun j hj=>absurd hj (Nat.not_lt_zero _)⟩
 rintro k ⟨hk,hall⟩
 refine q' 2 r'<|c' (X.lss r' r') (fun h2=>?_) fun h2=>?_
 ·refine v' 19 r'<|x' k hl r' r' fun p3 hp4=>i' hp4 r'<|e' (D6 call129 rfl rfl (B6V _ (gt l k))) (fun h5=>?_) fun h5=>?_
  ·refine v' 15 r'<|A0 r' r'<|A7 ?_
   first|exact A8 (A2E (by omega) hall (by assumption)).symm|exact A8 (A3r (fun j hj=>hall j (by omega))).symm
  exact v' 11 r'<|G5 (k+1)<|⟨by omega,fun j hj=>by rcases Nat.lt_succ_iff_lt_or_eq.1 hj with h|h;exact hall j h;subst h;(first|assumption|(apply Classical.byContradiction;assumption))⟩
 refine v' 15 r'<|A0 r' r'<|A7 ?_
 first|exact A8 (A2E (by omega) hall (by assumption)).symm|exact A8 (A3r (fun j hj=>hall j (by omega))).symm
theorem B3H(m:Mem){v:Value}{l:List Int}(hl:Sl m v l):Exact prog 176 #[v,Fc 131] m (J (A7H l)):=by
 refine have hll:=hl.le;C7 func176 r' ntmps176 fun wld=>q' 9 r'<|l' hl r'<|v' 4 r' ?_
 refine I0 (fun(k:Nat)=>l.length-k) (fun k=>[]) (fun k=>[(0,v),(1,.func (.func 131) #[] [].toArray),(7,J l.length),(8,J k)]) (fun k=>k≤l.length∧(∀j,j<k→-50000≤gt l j∧gt l j≤50000)) 0 ?_ ?_
 ·exact⟨Nat.zero_le _,fun j hj=>absurd hj (Nat.not_lt_zero _)⟩
 rintro k ⟨hk,hall⟩
 refine q' 2 r'<|c' (X.lss r' r') (fun h2=>?_) fun h2=>?_
 ·refine v' 19 r'<|x' k hl r' r' fun p3 hp4=>i' hp4 r'<|e' (D6 call131 rfl rfl (B6S _ (gt l k))) (fun h5=>?_) fun h5=>?_
  ·refine v' 15 r'<|A0 r' r'<|A7 ?_
   first|exact A8 (A2E (by omega) hall (by assumption)).symm|exact A8 (A3r (fun j hj=>hall j (by omega))).symm
  exact v' 11 r'<|G5 (k+1)<|⟨by omega,fun j hj=>by rcases Nat.lt_succ_iff_lt_or_eq.1 hj with h|h;exact hall j h;subst h;(first|assumption|(apply Classical.byContradiction;assumption))⟩
 refine v' 15 r'<|A0 r' r'<|A7 ?_
 first|exact A8 (A2E (by omega) hall (by assumption)).symm|exact A8 (A3r (fun j hj=>hall j (by omega))).symm
theorem B0J(m:Mem){v:Value}{l:List Int}(hl:Sl m v l):Exact prog 97 #[v,Fc 129] m (.bool (decide (¬A2A l))):=by
 exact C7 func97 r' ntmps97 fun wld=>q' 9 r'<|y' (X.call call176 rfl (B3Q _ hl))<|v' 5 r'<|A0 r' r'<|A7<|D5 (A9L l)
theorem B0R(m:Mem){v:Value}{l:List Int}(hl:Sl m v l):Exact prog 97 #[v,Fc 131] m (.bool (decide (¬A2A l))):=by
 exact C7 func97 r' ntmps97 fun wld=>q' 9 r'<|y' (X.call call176 rfl (B3H _ hl))<|v' 5 r'<|A0 r' r'<|A7<|D5 (A9L l)
theorem A7c{G:Prop}(h:G:=by first|exact A8 (by unfold J4;rw[if_pos ⟨by omega,by first|assumption|(apply Classical.byContradiction;assumption)⟩])|exact A8 (by unfold J4;rw[if_neg (fun h_=>by have h1_:=h_.1;omega)])|exact A8 (by unfold J4;rw[if_neg (fun h_=>absurd h_.2 (by assumption))])):G:=h
theorem B4v(m:Mem)(vl:Value)(l:List Int)(hl:Sl m vl l):Exact prog 69 #[vl] m (J (J4 l)):=by
 refine have ll:=hl.le;C7 func69 r' ntmps69 fun wld=>q' 9 r'<|l' hl r'<|c' (X.call call26 rfl (A4H _ _ _ _)) (fun h1=>?_) fun h1=>?_
 ·refine v' 5 r'<|e' (X.call call97 rfl (B0R _ hl)) (fun h2=>?_) fun h2=>?_
  ·exact v' 11 r'<|A0 r' r'<|A7<|A7c
  exact v' 12 r'<|A0 r' r'<|A7<|A7c
 exact v' 15 r'<|A0 r' r'<|A7<|A7c
theorem C0v(m:Mem)(cp:List Value)(p:Pen)(hp:Enc.rd m cp p)(vl:Value)(l:List Int)(hl:Sl m vl l):Exact prog 31 #[.agg cp.toArray,vl] m (J (O9 p l)):=by
 obtain rfl:=hp
 refine have ll:=hl.le;C7 func31 r' ntmps31 fun wld=>q' 2 r'<|o' r' r' fun b1=>v' 6 r'<|a' 0 r' r'<|y' (X.call call8 rfl (A9u _ _ p rfl))<|v' 6 r'<|e' (X.neq r' r') (fun h2=>?_) fun h2=>?_
 ·refine v' 11 r'<|A0 r' r'<|A7 ?_
  first|exact A8 (by unfold O9;rw[if_pos (by omega)])|exact A8 (by unfold O9;rw[if_neg (by omega)])
 refine v' 8 r'<|y' (X.call call69 rfl (B4v _ _ _ hl))<|v' 4 r'<|A0 r' r'<|A7 ?_
 first|exact A8 (by unfold O9;rw[if_pos (by omega)])|exact A8 (by unfold O9;rw[if_neg (by omega)])
theorem A5T{G:Prop}(h:G:=by first|exact A8 (by unfold T2;rw[if_pos (by omega)])|exact A8 (by unfold T2;rw[if_neg (by omega),if_pos (by first|assumption|(apply Classical.byContradiction;assumption))])|exact A8 (by unfold T2;rw[if_neg (by omega),if_neg (by assumption)])):G:=h
theorem C3e(m:Mem)(cp:List Value)(p:Pen)(hp:Enc.rd m cp p)(vl:Value)(l:List Int)(hl:Sl m vl l):Exact prog 68 #[.agg cp.toArray,vl] m (J (T2 p l)):=by
 obtain rfl:=hp
 refine have ll:=hl.le;C7 func68 r' ntmps68 fun wld=>q' 2 r'<|o' r' r' fun b1=>v' 6 r'<|a' 0 r' r'<|y' (X.call call8 rfl (A9u _ _ p rfl))<|v' 6 r'<|e' (X.neq r' r') (fun h2=>?_) fun h2=>?_
 ·exact v' 11 r'<|A0 r' r'<|A7<|A5T
 refine v' 9 r'<|e' (X.call call97 rfl (B0J _ hl)) (fun h3=>?_) fun h3=>?_
 ·exact v' 10 r'<|A0 r' r'<|A7<|A5T
 exact v' 11 r'<|A0 r' r'<|A7<|A5T
theorem B3m(m:Mem)(x:Int):Exact prog 169 #[J x] m (.bool false):=by
 refine C7 func169 r' ntmps169 fun wld=>q' 9 r'<|y' (A1S (X.neq rfl rfl) (fun h=>h rfl))<|v' 4 r'<|A0 r' r'<|A7 ?_
 first|rfl|(simp[*];done)
theorem C3B(m:Mem)(x:Int)(y:Int):Exact prog 280 #[J x,J y] m (.bool (decide (x<y))):=by
 refine C7 func280 r' ntmps280 fun wld=>q' 8 r'<|y' (X.call call169 rfl (B3m _ _))<|v' 17 r'<|A0 r' r'<|A7 ?_
 first|rfl|(simp[*];done)
end Go.Proofs.T10
namespace Go.Proofs.T10
open Tryz
set_option maxRecDepth 20000
open Go Go.Kx
theorem C6w(m:Mem){z:Int}(hz:0≤z∧z≤255):Pure prog 273 #[.int .u64 z] m (fun _ u=>∃r:Int,(0≤r∧r≤255)∧u=J r):=by
 exact H7 func273 r' ntmps273 fun wld=>q' 9 r'<|y' (A1S (X.geq rfl rfl) (by omega))<|v' 9 r'<|y' (A1S (X.geq rfl rfl) (by omega))<|v' 9 r'<|y' (A1S (X.geq rfl rfl) (by omega))<|v' 9 r'<|y' (M0 runUnderlying410 runUnderlying5 rfl (A4o (by omega) (by omega)))<|P5 (C0j 256 runUnderlying9 rfl rfl (by kernel_rfl) (by omega) (by omega)) (by decide) fun z1 h2=>y' (M0 runUnderlying5 runUnderlying3 rfl (M9 (by omega) (by omega)))<|v' 5 r'<|A0 r' r'<|C5<|⟨_,by omega,rfl⟩
theorem C4V(m:Mem){z:Int}(hz:0≤z∧z≤255):Pure prog 225 #[.int .u64 z] m (fun _ u=>∃r:Int,(0≤r∧r≤255)∧u=J r):=by
 refine H7 func225 r' ntmps225 fun wld=>q' 12 r' ?_
 refine D1 (T.call call273 rfl (C6w _ (z:=z) (by omega))) (by decide) (fun m1 _ hle2 hR_=>?_)
 obtain⟨z3,h4,rfl⟩:=hR_
 exact v' 4 r'<|A0 r' r'<|C5<|⟨_,by omega,rfl⟩
theorem C5U(m:Mem){v:Value}{L:List Int}(hL:L.length≤12){z0 zb:Int}(hz0:z0=0)(hz:zb=L.length):Mut prog 274 #[v,J z0,J zb] m [A5 v 3 L] (fun _ Es u=>u= .tuple #[]∧∃R,Es=[A5 v 3 R]∧R.Perm L∧Srt id R 0 L.length):=by
 subst hz0 hz
 refine G3 func274 r' ntmps274 fun wld=>q' 8 r' ?_
 refine O6 (fun(i:Nat) (R:List Int)=>L.length-i) (fun i R=>[A5 (v) 3 (R)]) (fun i R=>[(0,v),(1,J 0),(2,J L.length),(6,J i)]) (fun i R=>1≤i∧R.Perm L∧Srt id R 0 i) 1 L ?_ ?_
 ·exact⟨Nat.le_refl _,.refl _,.one id _ 0⟩
 rintro i R ⟨hi,hP,hT⟩
 refine have hPl:=hP.length_eq;q' 5 r'<|c' (X.lss r' r') (fun h2=>?_) fun h2=>?_
 ·refine v' 14 r' ?_
  refine O6 (fun(j:Nat) (R:List Int)=>j) (fun j R=>[A5 (v) 3 (R)]) (fun j R=>[(0,v),(1,J 0),(2,J L.length),(6,J i),(7,J j)]) (fun j R=>InsI id L R 0 i j) i R ?_ ?_
  ·exact B9J hP hT (by omega)
  rintro j R hF3
  try dsimp only at hF3
  refine have hI:=hF3;have hIl:=hI.perm.length_eq;have hIb:=hI.bd;q' 2 r'<|B4 15 [] []<|U' 2 r'<|C' r' r' (X.gtr r' r') (fun h4=>?_) fun h4=>?_
  ·refine U' 3 r'<|Y' r' r' (A4r (k:=0) j runUnderlying27 sizeOf3 rfl rfl rfl (by omega) (by first|omega|(simp;omega)|simp))<|Y' r' r' (A1p (k:=0) (i:=j) isAgg3 rfl rfl (by first|omega|(simp;omega)|simp))<|U' 3 r'<|Y' r' r' (A4r (k:=0) (j-1) runUnderlying27 sizeOf3 rfl rfl rfl (by omega) (by first|omega|(simp;omega)|simp))<|Y' r' r' (A1p (k:=0) (i:=(j-1)) isAgg3 rfl rfl (by first|omega|(simp;omega)|simp))<|C' r' r' (X.call call280 rfl (C3B _ _ _)) (fun h5=>?_) fun h5=>?_
   ·refine U' 1 r'<|V' 6 r'<|B4 18 [15,17] [15,17,100004]<|U' 4 r'<|H6 r' r' r' (fun _ _ hle_=>(X.sub rfl rfl (by omega) (by omega))) (by decide)<|U' 3 r'<|Y' r' r' (A4r (k:=0) (j-1) runUnderlying27 sizeOf3 rfl rfl rfl (by omega) (by first|omega|(simp;omega)|simp))<|Y' r' r' (A1p (k:=0) (i:=(j-1)) isAgg3 rfl rfl (by first|omega|(simp;omega)|simp))<|U' 2 r'<|Y' r' r' (A4r (k:=0) j runUnderlying27 sizeOf3 rfl rfl rfl (by omega) (by first|omega|(simp;omega)|simp))<|Y' r' r' (A1p (k:=0) (i:=j) isAgg3 rfl rfl (by first|omega|(simp;omega)|simp))<|Y' r' r' (A4r (k:=0) j runUnderlying27 sizeOf3 rfl rfl rfl (by omega) (by first|omega|(simp;omega)|simp))<|B3 r' r' r' r' (A6h (k:=0) (i:=j) sizeOf3 rfl rfl rfl (by first|omega|(simp;omega)|simp))<|Y' r' r' (A4r (k:=0) (j-1) runUnderlying27 sizeOf3 rfl rfl rfl (by omega) (by first|omega|(simp;omega)|simp))<|B3 r' r' r' r' (A6h (k:=0) (i:=(j-1)) sizeOf3 rfl rfl rfl (by first|omega|(simp;omega)|simp))<|V' 8 r' ?_
    obtain⟨j1_,hj1_⟩:∃qq__:Nat,(↑j-1:Int)=(qq__:Int):=⟨(↑j-1:Int).toNat,(by omega)⟩
    rw[hj1_]
    obtain rfl:j1_=j-1:=(by omega)
    exact J7 (j-1) ((R.set j (gt R ((j-1)))).set ((j-1)) (gt R j))<|C2p hI (by omega) (by assumption)
   refine U' 1 r'<|V' 8 r' ?_
   have hfin:=B4V hI (fun h_ hc_=>by first|omega|contradiction)
   exact q' 6 r'<|J7 (i+1) R<|⟨by omega,hfin.1,hfin.2⟩
  refine U' 12 r'<|V' 8 r' ?_
  have hfin:=B4V hI (fun h_ hc_=>by first|omega|contradiction)
  exact q' 6 r'<|J7 (i+1) R<|⟨by omega,hfin.1,hfin.2⟩
 refine v' 7 r'<|D9 r'<|G0 ?_
 refine⟨rfl,R,rfl,hP,?_⟩
 intro p q h1_ h2_ h3_
 exact hT p q h1_ h2_ (by omega)
theorem C5W(m:Mem){v:Value}{L:List Int}(hL:L.length≤12){z0 zb zl:Int}(hz0:z0=0)(hz:zb=L.length):Mut prog 226 #[v,J z0,J zb,J zl] m [A5 v 3 L] (fun _ Es u=>u= .tuple #[]∧∃R,Es=[A5 v 3 R]∧R.Perm L∧Srt id R 0 L.length):=by
 subst hz0 hz
 refine G3 func226 r' ntmps226 fun wld=>q' 11 r' ?_
 refine I0 (fun(u_:Unit)=>0) (fun u_=>[A5 (v) 3 (L)]) (fun u_=>[(0,v),(1,J 0),(2,J L.length),(3,J zl),(8,.bool true),(9,.bool true)]) (fun u_=>True) () ?_ ?_
 ·trivial
 rintro u_ hF1
 refine have hT_:=hF1;q' 13 r'<|y' (A0i (X.leq rfl rfl) (by omega))<|v' 8 r' ?_
 refine C2 (C3 (A:=[]) call274 rfl (.refl _) (C5U _ (L:=L) (by omega) (by omega) (by omega))) (by decide) (fun m2 Es_ _ hle3 hR_=>?_)
 obtain⟨rfl,R4,rfl,hR5⟩:=hR_
 exact v' 7 r'<|F1 r'<|G0<|⟨rfl,_,rfl,hR5⟩
theorem C4s(m:Mem){v:Value}{L:List Int}(hL:L.length≤12):Mut prog 150 #[v] m [A5 v 3 L] (fun _ Es u=>u= .tuple #[]∧∃R,Es=[A5 v 3 R]∧R.Perm L∧Srt id R 0 L.length):=by
 refine G3 func150 r' ntmps150 fun wld=>q' 3 r'<|y' (S5 (k:=0) runUnderlying27 rfl rfl)<|v' 7 r'<|y' (M0 runUnderlying3 runUnderlying358 rfl (Q1 (by omega) (by omega))) ?_
 refine D1 (T.call call225 rfl (C4V _ (z:=↑L.length) (by omega))) (by decide) (fun m1 _ hle2 hR_=>?_)
 obtain⟨z3,h4,rfl⟩:=hR_
 refine C2 (C3 (A:=[]) call226 rfl (.refl _) (C5W _ (L:=L) (by omega) (by omega) (by omega))) (by decide) (fun m5 Es_ _ hle6 hR_=>?_)
 obtain⟨rfl,R7,rfl,hR8⟩:=hR_
 exact v' 1 r'<|D9 r'<|G0<|⟨rfl,_,rfl,hR8⟩
theorem C0i(m:Mem){v:Value}{x y z:Int}:Mut prog 79 #[v] m [A5 v 3 [x,y,z]] (fun _ Es u=>Es=[]∧u=J (max (min x y) (min (max x y) z))):=by
 refine G3 func79 r' ntmps79 fun wld=>q' 8 r' ?_
 refine C2 (C3 (A:=[]) call150 rfl (.refl _) (C4s _ (L:=[x,y,z]) (by first|omega|(simp;done)|decide))) (by decide) (fun m1 Es_ _ hle2 hR_=>?_)
 obtain⟨rfl,R3,rfl,hR4⟩:=hR_
 refine v' 3 r' ?_
 have hl3_:R3.length=3:=hR4.1.length_eq
 refine have hmd_:=B8u hR4.1 hR4.2;q' 3 r'<|y' (S5 (k:=0) runUnderlying27 rfl rfl)<|y' (X.quo rfl rfl (by omega) (by omega) (by omega))<|y' (A3A (k:=0) runUnderlying27 sizeOf3 rfl rfl rfl (by first|omega|(simp;omega)|simp) (by first|omega|(simp;omega)|simp))<|y' (A1p (k:=0) (i:=(↑R3.length/2:Int).toNat) isAgg3 rfl rfl (by first|omega|(simp;omega)|simp))<|v' 4 r' ?_
 refine A0 rfl rfl (fun w' hw'=>B8 (hw'.weaken (.cons _ .slnil)) ?_)
 refine⟨rfl,A8 ?_⟩
 rw[←hmd_]
 congr 1
 omega
theorem C6B(m:Mem)(cp:List Value)(p:Pen)(hp:Enc.rd m cp p)(s:Int)(r:Int)(hb:0≤p.Band∧p.Band≤8)(hr: -200000≤r∧r≤200000):Exact prog 33 #[.agg cp.toArray,J s,J r] m (J (Z6 p.Band s r)):=by
 obtain rfl:=hp
 refine C7 func33 r' ntmps33 fun wld=>q' 2 r'<|o' r' r' fun b1=>v' 7 r'<|f' r' t'<|f' r' t'<|b' 0 r' r' r'<|v' 2 r'<|f' r' t'<|f' r' t'<|b' 0 r' r' r'<|v' 1 r' ?_
 refine G2 (B8j (vals:=[J s,J (r-p.Band),J (r+p.Band)]) (L:=[s,r-p.Band,r+p.Band]) L6 rfl rfl (by intro v hv;simp at hv;rcases hv with rfl|rfl|rfl <;> rfl) rfl rfl rfl) (by decide) (fun v2=>?_)
 refine C2 (C3 (A:=[blk b1 113 [J p.Band,J p.Zero.Lo,J p.Zero.Hi,J p.Rate]]) call79 rfl (.refl _) (C0i _)) (by decide) (fun m3 Es_ _ hle4 hR_=>?_)
 obtain⟨rfl,rfl⟩:=hR_
 exact v' 4 r'<|A0 r' r'<|A7<|A8 (by unfold Z6;omega)
end Go.Proofs.T10
namespace Go.Proofs.T10
open Tryz
set_option maxRecDepth 20000
open Go Go.Kx
theorem A0g(m:Mem)(n:Int)(lo:Int)(hi:Int):Exact prog 74 #[J n,J lo,J hi] m (.bool (decide (lo≤n∧n≤hi))):=by
 refine C7 func74 r' ntmps74 fun wld=>q' 9 r'<|c' (X.geq r' r') (fun h1=>?_) fun h1=>?_
 ·refine v' 12 r'<|A0 r' r'<|A7 ?_
  first|exact C9 (by omega)|exact A9 (by omega)|exact D5 (by omega)
 refine v' 9 r'<|A0 r' r'<|A7 ?_
 first|exact C9 (by omega)|exact A9 (by omega)|exact D5 (by omega)
theorem A3W(m:Mem)(cs:List Value)(s:Span)(hs:Enc.rd m cs s):Exact prog 221 #[.agg cs.toArray] m (.bool (decide (A2l s))):=by
 obtain rfl:=hs
 refine C7 func221 r' ntmps221 fun wld=>q' 2 r'<|o' r' r' fun b1=>v' 5 r'<|f' r' t'<|b' 0 r' r' r'<|f' r' t'<|b' 0 r' r' r'<|c' (X.call call74 rfl (A0g _ _ _ _)) (fun h2=>?_) fun h2=>?_
 ·refine v' 2 r'<|f' r' t'<|v' 1 r'<|b' 0 r' r' r'<|v' 7 r'<|A0 r' r'<|A7 ?_
  first|exact C9 (by unfold A2l;omega)|exact A9 (by unfold A2l;omega)|exact D5 (by unfold A2l;omega)
 refine v' 9 r'<|A0 r' r'<|A7 ?_
 first|exact C9 (by unfold A2l;omega)|exact A9 (by unfold A2l;omega)|exact D5 (by unfold A2l;omega)
theorem D3{G:Prop}(h:G:=by first|exact A8 (B8X (by unfold I6;first|omega|(rintro⟨h1_,h2_,h3_,h4_,h5_⟩;first|omega|contradiction))).symm|exact A8 (B7x ⟨by omega,by omega,by omega,by assumption,by assumption⟩).symm):G:=h
theorem A9c(m:Mem)(cp:List Value)(p:Paper)(hp:Enc.rd m cp p):Exact prog 141 #[.agg cp.toArray] m (J (A1c p)):=by
 obtain rfl:=hp
 refine C7 func141 r' ntmps141 fun wld=>q' 2 r'<|o' r' r' fun b1=>v' 5 r'<|f' r' t'<|b' 0 r' r' r'<|c' (X.call call74 rfl (A0g _ _ _ _)) (fun h2=>?_) fun h2=>?_
 ·refine v' 2 r'<|f' r' t'<|v' 1 r'<|b' 0 r' r' r'<|v' 1 r'<|c' (X.call call74 rfl (A0g _ _ _ _)) (fun h3=>?_) fun h3=>?_
  ·refine v' 3 r'<|f' r' t'<|v' 1 r'<|b' 0 r' r' r'<|v' 1 r'<|c' (X.eql r' r') (fun h4=>?_) fun h4=>?_
   ·refine v' 15 r'<|f' r' t'<|b' 0 r' r' r'<|c' (X.geq r' r') (fun h5=>?_) fun h5=>?_
    ·refine v' 2 r'<|f' r' t'<|v' 1 r'<|b' 0 r' r' r'<|v' 1 r'<|f' r' t'<|v' 1 r'<|b' 0 r' r' r'<|v' 1 r'<|c' (X.lss r' r') (fun h6=>?_) fun h6=>?_
     ·refine v' 3 r'<|f' r' t'<|v' 1 r'<|b' 0 r' r' r'<|v' 1 r'<|c' (X.leq r' r') (fun h7=>?_) fun h7=>?_
      ·refine v' 3 r'<|f' r' t'<|v' 1 r'<|b' 0 r' r' r'<|v' 1 r'<|f' r' t'<|v' 1 r'<|b' 0 r' r' r'<|v' 3 r'<|f' r' t'<|v' 1 r'<|b' 0 r' r' r'<|v' 1 r'<|c' (X.leq r' r') (fun h8=>?_) fun h8=>?_
       ·refine v' 17 r'<|f' r' t'<|v' 1 r'<|b' 0 r' r' r'<|v' 1 r'<|c' (X.call call74 rfl (A0g _ _ _ _)) (fun h9=>?_) fun h9=>?_
        ·refine v' 5 r'<|f' r' t'<|v' 1 r'<|y' (J2 (k:=0) (vs:=[J p.Along.Lo,J p.Along.Hi]) isAgg23 sizeOf23 rfl rfl rfl rfl)<|v' 1 r'<|c' (X.call call221 rfl (A3W _ _ p.Along rfl)) (fun h10=>?_) fun h10=>?_
         ·refine v' 5 r'<|f' r' t'<|v' 1 r'<|y' (J2 (k:=0) (vs:=[J p.Across.Lo,J p.Across.Hi]) isAgg23 sizeOf23 rfl rfl rfl rfl)<|v' 1 r'<|c' (X.call call221 rfl (A3W _ _ p.Across rfl)) (fun h11=>?_) fun h11=>?_
          ·exact v' 14 r'<|A0 r' r'<|A7<|D3
          exact v' 13 r'<|A0 r' r'<|A7<|D3
         exact v' 19 r'<|A0 r' r'<|A7<|D3
        exact v' 25 r'<|A0 r' r'<|A7<|D3
       exact v' 43 r'<|A0 r' r'<|A7<|D3
      exact v' 53 r'<|A0 r' r'<|A7<|D3
     exact v' 58 r'<|A0 r' r'<|A7<|D3
    exact v' 64 r'<|A0 r' r'<|A7<|D3
   refine v' 3 r'<|f' r' t'<|v' 1 r'<|b' 0 r' r' r'<|v' 1 r'<|f' r' t'<|v' 1 r'<|b' 0 r' r' r'<|v' 1 r'<|c' (X.call call74 rfl (A0g _ _ _ _)) (fun h12=>?_) fun h12=>?_
   ·refine v' 8 r'<|f' r' t'<|b' 0 r' r' r'<|c' (X.geq r' r') (fun h13=>?_) fun h13=>?_
    ·refine v' 2 r'<|f' r' t'<|v' 1 r'<|b' 0 r' r' r'<|v' 1 r'<|f' r' t'<|v' 1 r'<|b' 0 r' r' r'<|v' 1 r'<|c' (X.lss r' r') (fun h14=>?_) fun h14=>?_
     ·refine v' 3 r'<|f' r' t'<|v' 1 r'<|b' 0 r' r' r'<|v' 1 r'<|c' (X.leq r' r') (fun h15=>?_) fun h15=>?_
      ·refine v' 3 r'<|f' r' t'<|v' 1 r'<|b' 0 r' r' r'<|v' 1 r'<|f' r' t'<|v' 1 r'<|b' 0 r' r' r'<|v' 3 r'<|f' r' t'<|v' 1 r'<|b' 0 r' r' r'<|v' 1 r'<|c' (X.leq r' r') (fun h16=>?_) fun h16=>?_
       ·refine v' 17 r'<|f' r' t'<|v' 1 r'<|b' 0 r' r' r'<|v' 1 r'<|c' (X.call call74 rfl (A0g _ _ _ _)) (fun h17=>?_) fun h17=>?_
        ·refine v' 5 r'<|f' r' t'<|v' 1 r'<|y' (J2 (k:=0) (vs:=[J p.Along.Lo,J p.Along.Hi]) isAgg23 sizeOf23 rfl rfl rfl rfl)<|v' 1 r'<|c' (X.call call221 rfl (A3W _ _ p.Along rfl)) (fun h18=>?_) fun h18=>?_
         ·refine v' 5 r'<|f' r' t'<|v' 1 r'<|y' (J2 (k:=0) (vs:=[J p.Across.Lo,J p.Across.Hi]) isAgg23 sizeOf23 rfl rfl rfl rfl)<|v' 1 r'<|c' (X.call call221 rfl (A3W _ _ p.Across rfl)) (fun h19=>?_) fun h19=>?_
          ·exact v' 14 r'<|A0 r' r'<|A7<|D3
          exact v' 13 r'<|A0 r' r'<|A7<|D3
         exact v' 19 r'<|A0 r' r'<|A7<|D3
        exact v' 25 r'<|A0 r' r'<|A7<|D3
       exact v' 43 r'<|A0 r' r'<|A7<|D3
      exact v' 53 r'<|A0 r' r'<|A7<|D3
     exact v' 58 r'<|A0 r' r'<|A7<|D3
    exact v' 64 r'<|A0 r' r'<|A7<|D3
   refine v' 8 r'<|f' r' t'<|b' 0 r' r' r'<|c' (X.geq r' r') (fun h20=>?_) fun h20=>?_
   ·refine v' 2 r'<|f' r' t'<|v' 1 r'<|b' 0 r' r' r'<|v' 1 r'<|f' r' t'<|v' 1 r'<|b' 0 r' r' r'<|v' 1 r'<|c' (X.lss r' r') (fun h21=>?_) fun h21=>?_
    ·refine v' 3 r'<|f' r' t'<|v' 1 r'<|b' 0 r' r' r'<|v' 1 r'<|c' (X.leq r' r') (fun h22=>?_) fun h22=>?_
     ·refine v' 3 r'<|f' r' t'<|v' 1 r'<|b' 0 r' r' r'<|v' 1 r'<|f' r' t'<|v' 1 r'<|b' 0 r' r' r'<|v' 3 r'<|f' r' t'<|v' 1 r'<|b' 0 r' r' r'<|v' 1 r'<|c' (X.leq r' r') (fun h23=>?_) fun h23=>?_
      ·exact v' 41 r'<|A0 r' r'<|A7<|D3
      exact v' 41 r'<|A0 r' r'<|A7<|D3
     exact v' 51 r'<|A0 r' r'<|A7<|D3
    exact v' 56 r'<|A0 r' r'<|A7<|D3
   exact v' 62 r'<|A0 r' r'<|A7<|D3
  refine v' 18 r'<|f' r' t'<|b' 0 r' r' r'<|c' (X.geq r' r') (fun h24=>?_) fun h24=>?_
  ·refine v' 2 r'<|f' r' t'<|v' 1 r'<|b' 0 r' r' r'<|v' 1 r'<|f' r' t'<|v' 1 r'<|b' 0 r' r' r'<|v' 1 r'<|c' (X.lss r' r') (fun h25=>?_) fun h25=>?_
   ·refine v' 3 r'<|f' r' t'<|v' 1 r'<|b' 0 r' r' r'<|v' 1 r'<|c' (X.leq r' r') (fun h26=>?_) fun h26=>?_
    ·refine v' 3 r'<|f' r' t'<|v' 1 r'<|b' 0 r' r' r'<|v' 1 r'<|f' r' t'<|v' 1 r'<|b' 0 r' r' r'<|v' 3 r'<|f' r' t'<|v' 1 r'<|b' 0 r' r' r'<|v' 1 r'<|c' (X.leq r' r') (fun h27=>?_) fun h27=>?_
     ·exact v' 41 r'<|A0 r' r'<|A7<|D3
     exact v' 41 r'<|A0 r' r'<|A7<|D3
    exact v' 51 r'<|A0 r' r'<|A7<|D3
   exact v' 56 r'<|A0 r' r'<|A7<|D3
  exact v' 62 r'<|A0 r' r'<|A7<|D3
 refine v' 22 r'<|f' r' t'<|b' 0 r' r' r'<|c' (X.geq r' r') (fun h28=>?_) fun h28=>?_
 ·refine v' 2 r'<|f' r' t'<|v' 1 r'<|b' 0 r' r' r'<|v' 1 r'<|f' r' t'<|v' 1 r'<|b' 0 r' r' r'<|v' 1 r'<|c' (X.lss r' r') (fun h29=>?_) fun h29=>?_
  ·refine v' 3 r'<|f' r' t'<|v' 1 r'<|b' 0 r' r' r'<|v' 1 r'<|c' (X.leq r' r') (fun h30=>?_) fun h30=>?_
   ·refine v' 3 r'<|f' r' t'<|v' 1 r'<|b' 0 r' r' r'<|v' 1 r'<|f' r' t'<|v' 1 r'<|b' 0 r' r' r'<|v' 3 r'<|f' r' t'<|v' 1 r'<|b' 0 r' r' r'<|v' 1 r'<|c' (X.leq r' r') (fun h31=>?_) fun h31=>?_
    ·exact v' 41 r'<|A0 r' r'<|A7<|D3
    exact v' 41 r'<|A0 r' r'<|A7<|D3
   exact v' 51 r'<|A0 r' r'<|A7<|D3
  exact v' 56 r'<|A0 r' r'<|A7<|D3
 exact v' 62 r'<|A0 r' r'<|A7<|D3
theorem A1J{G:Prop}(h:G:=by first|exact⟨_,F8 (A8 (B6k (by omega)).symm) rfl⟩|exact⟨_,F8 (A8 (B7Y (by omega) (fun h_=>by have h1_:=h_ k (by omega);unfold N6 at h1_;omega)).symm) rfl⟩|exact⟨_,F8 (A8 (B6H (by omega) (fun j hj=>hall j (by omega))).symm) rfl⟩):G:=h
theorem B2K(m:Mem){v:Value}{l:List Point}(hl:Sl m v l):Pure prog 142 #[v] m (fun _ u=>∃i:Int,u= .tuple #[J (A1R l),J i]):=by
 refine have hll:=hl.le;H7 func142 r' ntmps142 fun wld=>q' 10 r'<|l' hl r'<|c' (X.gtr r' r') (fun h1=>?_) fun h1=>?_
 ·exact v' 11 r'<|B6 r' r' r'<|C5<|A1J
 refine v' 9 r'<|l' hl r'<|v' 4 r' ?_
 refine I0 (fun(k:Nat)=>l.length-k) (fun k=>[]) (fun k=>[(9,v),(10,J l.length),(11,J k)]) (fun k=>k≤l.length∧(∀j,j<k→N6 (gt l j))) 0 ?_ ?_
 ·exact⟨Nat.zero_le _,fun j hj=>absurd hj (Nat.not_lt_zero _)⟩
 rintro k ⟨hk,hall⟩
 refine q' 2 r'<|c' (X.lss r' r') (fun h3=>?_) fun h3=>?_
 ·refine v' 11 r'<|x' k hl r' r' fun p4 hp5=>g' hp5 r' fun c6 hc7=>?_
  obtain rfl:=hc7
  refine n' zeroValue102 r' fun b8=>v' 1 r'<|w' 0 r' r' r'<|v' 4 r'<|f' r' t'<|b' 0 r' r' r'<|c' (X.call call74 rfl (A0g _ _ _ _)) (fun h9=>?_) fun h9=>?_
  ·refine v' 3 r'<|f' r' t'<|v' 1 r'<|b' 0 r' r' r'<|v' 1 r'<|c' (X.call call74 rfl (A0g _ _ _ _)) (fun h10=>?_) fun h10=>?_
   ·refine v' 5 r'<|f' r' t'<|v' 1 r'<|b' 0 r' r' r'<|v' 1 r'<|c' (X.call call74 rfl (A0g _ _ _ _)) (fun h11=>?_) fun h11=>?_
    ·exact v' 14 r'<|G5 (k+1)<|⟨by omega,fun j hj=>by rcases Nat.lt_succ_iff_lt_or_eq.1 hj with h|h;exact hall j h;subst h;(unfold N6;omega)⟩
    exact v' 19 r'<|B6 r' r' r'<|C5<|A1J
   exact v' 25 r'<|B6 r' r' r'<|C5<|A1J
  exact v' 29 r'<|B6 r' r' r'<|C5<|A1J
 exact v' 16 r'<|B6 r' r' r'<|C5<|A1J
theorem A6I(m:Mem)(a:Int)(b:Int)(hpa: -1000000000000≤a∧a≤1000000000000)(hpb:0<b):Exact prog 147 #[J a,J b] m (J (a/b)):=by
 refine have hq:=C2S (b:=b) (B:=1000000000000) hpa;C7 func147 r' ntmps147 fun wld=>q' 9 r'<|y' (C5J rfl rfl (by omega) (by omega) (by omega))<|v' 8 r'<|y' (C5t rfl rfl (by omega))<|c' (X.lss r' r') (fun h1=>?_) fun h1=>?_
 ·refine v' 16 r'<|A0 r' r'<|A7 ?_
  first|exact A8 (B1X hpb (by assumption))|exact A8 (B2G (by assumption))
 refine v' 12 r'<|A0 r' r'<|A7 ?_
 first|exact A8 (B1X hpb (by assumption))|exact A8 (B2G (by assumption))
theorem B1r(m:Mem)(n:Int)(half:Int)(cx:List Value)(x:Span)(hx:Enc.rd m cx x)(hn:0≤n∧n≤400000)(hh:0≤half∧half≤5000)(hpx:A2l x):Exact prog 222 #[J n,J half,.agg cx.toArray] m (.agg [J ((E3 n half x).Lo),J ((E3 n half x).Hi)].toArray):=by
 obtain rfl:=hx
 have hx_:=hpx
 unfold A2l at hx_
 refine C7 func222 r' ntmps222 fun wld=>q' 2 r'<|o' r' r' fun b1=>n' zeroValue23 r' fun b2=>v' 3 r'<|B4 17 [16] [16]<|U' 3 r'<|Y' r' r' (X.mul rfl rfl (by omega) (by omega))<|Y' r' r' (A.f r')<|Y' r' r' (A.b 1 r' r' r')<|Y' r' r' (X.call call147 rfl (A6I _ _ _ (by omega) (by omega)))<|Y' r' r' (A7b rfl rfl)<|U' 3 r'<|Y' r' r' (X.mul rfl rfl (by omega) (by omega))<|Y' r' r' (A.f r')<|Y' r' r' (A.b 1 r' r' r')<|Y' r' r' (X.call call147 rfl (A6I _ _ _ (by omega) (by omega)))<|DW.x (V:=Value.agg [J (max 0 ((((n-half)*1000))/x.Hi)),J ((((n+half)*1000))/x.Lo)].toArray) r' r' (X.build zeroValue23 runUnderlying23 (H3 _ underlying23) rfl rfl) (by decide) ?_
 exact W' 0 r' r' r' r' r'<|V' 2 r'<|T3 0 r' r' r' isAgg23 sizeOf23<|A7<|A2C rfl rfl
theorem C2h(m:Mem)(cf:List Value)(f:Paper)(hf:Enc.rd m cf f)(ct:List Value)(t:Point)(ht:Enc.rd m ct t)(hpf:I6 f)(hpt:N6 t):Exact prog 144 #[.agg cf.toArray,.agg ct.toArray] m (.agg [J ((E3 t.X t.Half f.Along).Lo),J ((E3 t.X t.Half f.Along).Hi)].toArray):=by
 obtain rfl:=hf
 obtain rfl:=ht
 have hf_:=hpf
 have hfa_:=hpf.2.2.2.1
 have hfc_:=hpf.2.2.2.2
 have ht_:=hpt
 unfold N6 at ht_
 exact have hf1_:=hpf.1;have hpl1_:=X2 ht_.1 ht_.2.2 hfa_;have hpl2_:=X2 ht_.2.1 ht_.2.2 hfc_;C7 func144 r' ntmps144 fun wld=>q' 2 r'<|o' r' r' fun b1=>o' r' r' fun b2=>n' zeroValue23 r' fun b3=>v' 4 r'<|f' r' t'<|b' 1 r' r' r'<|f' r' t'<|b' 1 r' r' r'<|f' r' t'<|f' r' t'<|y' (J2 (k:=2) (vs:=[J f.Along.Lo,J f.Along.Hi]) isAgg23 sizeOf23 rfl rfl rfl rfl)<|y' (X.call call222 rfl (B1r _ _ _ _ f.Along rfl (by omega) (by omega) (by assumption)))<|w' 0 r' r' r'<|v' 3 r'<|T3 0 r' r' r' isAgg23 sizeOf23<|A7<|A2C rfl rfl
theorem B9F(m:Mem)(cf:List Value)(f:Paper)(hf:Enc.rd m cf f)(ct:List Value)(t:Point)(ht:Enc.rd m ct t)(hpf:I6 f)(hpt:N6 t):Exact prog 223 #[.agg cf.toArray,.agg ct.toArray] m (.agg [J ((E3 t.Y t.Half f.Across).Lo),J ((E3 t.Y t.Half f.Across).Hi)].toArray):=by
 obtain rfl:=hf
 obtain rfl:=ht
 have hf_:=hpf
 have hfa_:=hpf.2.2.2.1
 have hfc_:=hpf.2.2.2.2
 have ht_:=hpt
 unfold N6 at ht_
 exact have hf1_:=hpf.1;have hpl1_:=X2 ht_.1 ht_.2.2 hfa_;have hpl2_:=X2 ht_.2.1 ht_.2.2 hfc_;C7 func223 r' ntmps223 fun wld=>q' 2 r'<|o' r' r' fun b1=>o' r' r' fun b2=>n' zeroValue23 r' fun b3=>v' 4 r'<|f' r' t'<|b' 1 r' r' r'<|f' r' t'<|b' 1 r' r' r'<|f' r' t'<|f' r' t'<|y' (J2 (k:=2) (vs:=[J f.Across.Lo,J f.Across.Hi]) isAgg23 sizeOf23 rfl rfl rfl rfl)<|y' (X.call call222 rfl (B1r _ _ _ _ f.Across rfl (by omega) (by omega) (by assumption)))<|w' 0 r' r' r'<|v' 3 r'<|T3 0 r' r' r' isAgg23 sizeOf23<|A7<|A2C rfl rfl
theorem B7B(m:Mem)(cf:List Value)(f:Paper)(hf:Enc.rd m cf f)(ct:List Value)(t:Point)(ht:Enc.rd m ct t)(hpf:I6 f)(hpt:N6 t):Exact prog 145 #[.agg cf.toArray,.agg ct.toArray] m (.agg [J ((E3 t.Y t.Half f.Across).Lo),J (min (E3 t.Y t.Half f.Across).Hi f.Height)].toArray):=by
 obtain rfl:=hf
 obtain rfl:=ht
 have hf_:=hpf
 have hfa_:=hpf.2.2.2.1
 have hfc_:=hpf.2.2.2.2
 have ht_:=hpt
 unfold N6 at ht_
 exact have hf1_:=hpf.1;have hpl1_:=X2 ht_.1 ht_.2.2 hfa_;have hpl2_:=X2 ht_.2.1 ht_.2.2 hfc_;C7 func145 r' ntmps145 fun wld=>q' 2 r'<|o' r' r' fun b1=>o' r' r' fun b2=>n' zeroValue23 r' fun b3=>v' 4 r'<|a' 2 r' r'<|a' 1 r' r'<|y' (X.call call223 rfl (B9F _ _ f rfl _ t rfl (by assumption) (by assumption)))<|n' zeroValue23 r' fun b4=>w' 0 r' r' r'<|v' 4 r'<|f' r' t'<|b' 0 r' r' r'<|f' r' t'<|f' r' t'<|b' 3 r' r' r'<|y' (B0Q rfl rfl)<|f' r' t'<|I2 (T.storeB (k:=0) sizeOf3 rfl rfl rfl rfl (Nat.le_of_ble_eq_true rfl))<|v' 4 r'<|a' 0 r' r'<|w' 1 r' r' r'<|v' 3 r'<|T3 1 r' r' r' isAgg23 sizeOf23<|A7<|A2C rfl rfl
theorem B1s{G:Prop}(h:G:=by first|exact A8 (by unfold A5p;rw[if_pos (by assumption)])|exact A8 (by unfold A5p;rw[if_neg (by assumption)])):G:=h
theorem C5L(m:Mem)(cf:List Value)(f:Paper)(hf:Enc.rd m cf f)(y:Int)(hpf:I6 f)(hpy:0≤y∧y≤f.Height):Exact prog 146 #[.agg cf.toArray,J y] m (J (A5p f y)):=by
 obtain rfl:=hf
 refine have hf1_:=hpf.1;have hf2_:=hpf.2.1;have hn_:=B0G hpf hpy;have hl_:=A7s hpf hpy;have hq_:=B0I hpf hpy;have hab_:=B3E hpf hpy;C7 func146 r' ntmps146 fun wld=>q' 2 r'<|o' r' r' fun b1=>v' 6 r'<|f' r' t'<|f' r' t'<|b' 0 r' r' r'<|c' (X.eql r' r') (fun h2=>?_) fun h2=>?_
 ·exact v' 10 r'<|A0 r' r'<|A7<|B1s
 exact v' 8 r'<|f' r' t'<|f' r' t'<|b' 0 r' r' r'<|v' 2 r'<|y' (X.mul rfl rfl (by omega) (by omega))<|f' r' t'<|f' r' t'<|b' 0 r' r' r'<|y' (X.mul rfl rfl (by omega) (by omega))<|y' (X.quo rfl rfl (by omega) (by omega) (by omega))<|v' 4 r'<|A0 r' r'<|A7<|B1s
theorem C4j(m:Mem)(cf:List Value)(f:Paper)(hf:Enc.rd m cf f)(y:Int)(hpf:I6 f)(hpy:0≤y∧y≤f.Height):Exact prog 77 #[.agg cf.toArray,J y] m (J (Q6 f y)):=by
 obtain rfl:=hf
 exact have hf1_:=hpf.1;have hf2_:=hpf.2.1;have hn_:=B0G hpf hpy;have hl_:=A7s hpf hpy;have hq_:=B0I hpf hpy;C7 func77 r' ntmps77 fun wld=>q' 2 r'<|o' r' r' fun b1=>v' 4 r'<|B4 18 [] []<|Y' r' r' (A.f r')<|Y' r' r' (A.f r')<|Y' r' r' (A.b 0 r' r' r')<|U' 1 r'<|Y' r' r' (A.f r')<|Y' r' r' (A.f r')<|Y' r' r' (A.b 0 r' r' r')<|Y' r' r' (A.f r')<|Y' r' r' (A.f r')<|Y' r' r' (A.b 0 r' r' r')<|U' 1 r'<|Y' r' r' (X.mul rfl rfl (by omega) (by omega))<|Y' r' r' (A.f r')<|Y' r' r' (A.f r')<|Y' r' r' (A.b 0 r' r' r')<|Y' r' r' (X.quo rfl rfl (by omega) (by omega) (by omega))<|U' 2 r'<|V' 2 r'<|A0 r' r'<|A7<|A8 rfl
end Go.Proofs.T10
namespace Go.Proofs.T10
open Tryz
set_option maxRecDepth 20000
open Go Go.Kx
end Go.Proofs.T10
namespace Go.Proofs.T10
open Tryz
set_option maxRecDepth 20000
open Go Go.Kx
theorem C4U(m:Mem){V v:Value}{e sz n off:Nat}{xs:List Value}{L:List Span}{y:Int}(hxv:xs[off]?=some v)(hB:spB L)(hn:L.length≤1000000)(hlev:0≤y∧y≤12000):Mut prog 76 #[.pointer (some (rp V off)),J y] m [row V e sz n xs,A5 v 23 L] (fun _ Es u=>u= .tuple #[]∧∃v',Es=[row V e sz n (xs.set off v'),A5 v' 23 (A0E L ⟨y,y⟩)]∧v'.oneCell'=true):=by
 have hoff:off<xs.length:=(List.getElem?_eq_some_iff.1 hxv).1
 have hlast:0<L.length→0≤(gt L (L.length-1)).Hi∧(gt L (L.length-1)).Hi≤12000:=fun h_=>(B2P hB (by omega)).2
 refine G3 func76 r' ntmps76 fun wld=>q' 4 r'<|f' r' t'<|y' (M3 (k:=0) isAgg28 rfl rfl hxv)<|y' (S5 (k:=1) runUnderlying28 rfl rfl)<|v' 7 r'<|c' (X.gtr r' r') (fun h1=>?_) fun h1=>?_
 ·refine v' 8 r'<|f' r' t'<|v' 1 r'<|y' (M3 (k:=0) isAgg28 rfl rfl hxv)<|v' 5 r'<|y' (B0 1 (L.length-1))<|v' 1 r'<|f' r' t'<|v' 1 r'<|y' (Q0 (k:=1) (i:=L.length-1) (off:=1) (u:=J (((gt L (L.length-1))).Hi)) isAgg3 rfl rfl (by first|omega|(simp;omega)|simp) rfl)<|v' 3 r'<|c' (X.leq r' r') (fun h2=>?_) fun h2=>?_
  ·refine v' 5 r' ?_
   refine B0S (k:=1) rfl (fun ho_=>?_)
   exact B4 20 [19] [19]<|U' 2 r'<|Y' r' r' (A.f r')<|Y' r' r' (M3 (k:=0) isAgg28 rfl rfl hxv)<|U' 4 r'<|Y' r' r' (A.f r')<|Y' r' r' (M3 (k:=0) isAgg28 rfl rfl hxv)<|U' 2 r'<|Y' r' r' (B0 1 (L.length-1))<|Y' r' r' (A.f r')<|Y' r' r' (Q0 (k:=1) (i:=L.length-1) (off:=1) (u:=J (((gt L (L.length-1))).Hi)) isAgg3 rfl rfl (by first|omega|(simp;omega)|simp) rfl)<|U' 1 r'<|Y' r' r' (A7b rfl rfl)<|Y' r' r' (B0 1 (L.length-1))<|Y' r' r' (A.f r')<|B3 r' r' r' r' (C6 (k:=1) (i:=L.length-1) (off:=1) (us:=[J (max (((gt L (L.length-1))).Hi) y)]) ((Span.mk (((gt L (L.length-1))).Lo) (max (((gt L (L.length-1))).Hi) y))) sizeOf3 rfl rfl rfl rfl (Nat.zero_lt_succ _) rfl (by first|omega|(simp;omega)|simp) rfl rfl (A4 rfl C0))<|V' 3 r'<|F1 r'<|G0<|⟨rfl,v,(by rw[C0g hxv,A8X ⟨by omega,by dsimp only;omega⟩] <;> rfl),ho_⟩
  refine v' 10 r'<|f' r' t'<|y' (M3 (k:=0) isAgg28 rfl rfl hxv)<|v' 2 r'<|WL.x (V:=Value.agg [J y,J y].toArray) (X.build zeroValue23 runUnderlying23 (H3 _ underlying23) rfl rfl) (by decide) ?_
  refine T6 (E6 Q7 rfl rfl rfl (by decide)) (by decide) fun b3=>?_
  refine G2 (E2 (k:=1) (a:=(Span.mk (y) (y))) Q7 rfl rfl rfl rfl (by first|omega|(simp;done)|(simp;omega)) (by decide)) (by decide) (fun v4=>?_)
  refine v' 1 r'<|f' r' t' ?_
  refine F7 (k:=1) rfl (fun ho5=>?_)
  exact I2 (A2e (k:=0) sizeOf28 rfl rfl rfl ho5 hoff)<|v' 1 r'<|D9 r'<|G0<|⟨rfl,_,(by rw[A4n (fun h_=>by have h1_:=h_.2;dsimp only at h1_;omega)] <;> rfl),ho5⟩
 refine v' 23 r'<|f' r' t'<|y' (M3 (k:=0) isAgg28 rfl rfl hxv)<|v' 2 r'<|WL.x (V:=Value.agg [J y,J y].toArray) (X.build zeroValue23 runUnderlying23 (H3 _ underlying23) rfl rfl) (by decide) ?_
 refine T6 (E6 Q7 rfl rfl rfl (by decide)) (by decide) fun b6=>?_
 refine G2 (E2 (k:=1) (a:=(Span.mk (y) (y))) Q7 rfl rfl rfl rfl (by first|omega|(simp;done)|(simp;omega)) (by decide)) (by decide) (fun v7=>?_)
 refine v' 1 r'<|f' r' t' ?_
 refine F7 (k:=1) rfl (fun ho8=>?_)
 exact I2 (A2e (k:=0) sizeOf28 rfl rfl rfl ho8 hoff)<|v' 1 r'<|D9 r'<|G0<|⟨rfl,_,(by rw[A4n (fun h_=>by have h1_:=h_.2;dsimp only at h1_;omega)] <;> rfl),ho8⟩
end Go.Proofs.T10
