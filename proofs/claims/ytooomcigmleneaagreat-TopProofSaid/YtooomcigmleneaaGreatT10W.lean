import Derived.Test.YtooomcigmleneaaGreatT10Ty
import Derived.Test.YtooomcigmleneaaGreatT10Ink2
set_option linter.all false
set_option maxHeartbeats 1000000
namespace Go.Proofs.T10
open Tryz Go Go.Kx
set_option maxRecDepth 20000
theorem DV(m:Mem)(n:Int)(lo:Int)(hi:Int):Exact prog 26 #[J n,J lo,J hi] m (.bool (decide (lo≤n∧n≤hi))):=by
 refine D4 func26 O ntmps26 fun a=>q' 9 O<|c' (X.geq O O) (fun b=>?_) fun b=>?_
 ·refine U 12 O<|A0 O O<|A8 ?_
  first|exact D5 (by omega)|exact B2 (by omega)|exact D8 (by omega)
 refine U 9 O<|A0 O O<|A8 ?_
 first|exact D5 (by omega)|exact B2 (by omega)|exact D8 (by omega)
theorem Db{G:Prop}(h:G:=by first|exact B0 (B2r (by unfold M9;omega)).symm|exact B0 (RG (by unfold M9;omega)).symm):G:=h
theorem Mp(m:Mem)(cp:List Value)(p:Pen)(hp:Enc.rd m cp p):Exact prog 8 #[.agg cp.toArray] m (J (GI p)):=by
 obtain rfl:=hp
 refine D4 func8 O ntmps8 fun a=>q' 2 O<|o' O O fun l=>U 5 O<|f' O t'<|y' (J5 (k:=0) (vs:=[J p.Zero.Lo,J p.Zero.Hi]) isAgg23 sizeOf23 rfl rfl rfl rfl)<|n' zeroValue23 O fun n=>w' 0 O O O<|U 5 O<|f' O t'<|b' 1 O O O<|c' (X.call call26 rfl (DV _ _ _ _)) (fun b=>?_) fun b=>?_
 ·refine U 3 O<|f' O t'<|U 1 O<|b' 0 O O O<|U 1 O<|f' O t'<|U 1 O<|b' 0 O O O<|U 1 O<|c' (X.call call26 rfl (DV _ _ _ _)) (fun c=>?_) fun c=>?_
  ·refine U 5 O<|f' O t'<|U 1 O<|b' 0 O O O<|U 1 O<|c' (X.gtr O O) (fun d=>?_) fun d=>?_
   ·exact U 25 O<|A0 O O<|A8<|Db
   refine U 3 O<|f' O t'<|U 1 O<|b' 0 O O O<|U 1 O<|f' O t'<|U 1 O<|b' 0 O O O<|U 3 O<|c' (X.gtr O O) (fun f=>?_) fun f=>?_
   ·exact U 17 O<|A0 O O<|A8<|Db
   refine U 3 O<|f' O t'<|U 1 O<|b' 1 O O O<|U 1 O<|c' (X.call call26 rfl (DV _ _ _ _)) (fun g=>?_) fun g=>?_
   ·exact U 14 O<|A0 O O<|A8<|Db
   exact U 13 O<|A0 O O<|A8<|Db
  exact U 32 O<|A0 O O<|A8<|Db
 exact U 38 O<|A0 O O<|A8<|Db
theorem Oi(m:Mem)(a:Int)(b:Int)(ha: -200000≤a∧a≤200000)(hb: -200000≤b∧b≤200000):Exact prog 32 #[J a,J b] m (J (Jr a b)):=by
 refine D4 func32 O ntmps32 fun c=>q' 13 O<|y' (EG rfl rfl)<|U 4 O<|A0 O O<|A8 ?_
 first|rfl|(simp[*];done)
theorem B4z(m:Mem)(va:Value)(a:List Int)(ha:Sl m va a)(vb:Value)(b:List Int)(hb:Sl m vb b):Exact prog 27 #[va,vb] m (.bool (decide (a=b))):=by
 refine have la:=ha.le;have lb:=hb.le;D4 func27 O ntmps27 fun g=>q' 9 O<|l' ha O<|U 1 O<|l' hb O<|e' (X.neq O O) (fun l=>?_) fun l=>?_
 ·exact U 10 O<|A0 O O<|A8<|B2 (fun e=>by subst e;omega)
 refine U 12 O ?_
 refine J4 (fun(k:Nat)=>a.length-k) (fun k=>[]) (fun k=>[(0,va),(1,vb),(5,J k)]) (fun k=>k≤a.length∧(∀j,j<k→gt a j=gt b j)) 0 ?_ ?_
 ·exact⟨EF _,fun j c=>absurd c (R' _)⟩
 rintro k ⟨r,hall⟩
 refine q' 5 O<|l' ha O<|c' (X.lss O O) (fun n=>?_) fun n=>?_
 ·refine U 8 O<|B9 9 [] []<|U' 2 O<|X' k ha O O O O fun p d=>Z O O (A.i O d)<|U' 2 O<|X' k hb O O O O fun q f=>Z O O (A.i O f) ?_
  refine CM rfl rfl (X.neq rfl rfl) (by decide) (fun o=>?_) (fun o=>?_)
  ·exact V' 13 O<|A0 O O<|A8<|B2 (fun e=>by subst e;contradiction)
  exact V' 11 O<|I6 (k+1)<|⟨by omega,fun j c=>by rcases Sc.1 c with h|h;exact hall j h;subst h;(first|assumption|(apply Sj;assumption))⟩
 exact U 14 O<|A0 O O<|A8<|D5 (Dy (by omega) (fun j c=>hall j (by omega)))
theorem B0m(m:Mem)(va:Value)(a:List Int)(ha:Sl m va a)(vb:Value)(b:List Int)(hb:Sl m vb b):Exact prog 9 #[va,vb] m (.bool (decide (a=b))):=by
 refine have la:=ha.le;have lb:=hb.le;D4 func9 O ntmps9 fun c=>q' 9 O<|y' (X.call call27 rfl (B4z _ _ _ ha _ _ hb))<|U 4 O<|A0 O O<|A8 ?_
 first|rfl|(simp[*];done)
theorem Rz(m:Mem)(n:Int):Exact prog 130 #[J n] m (.bool (decide (-50000≤n∧n≤50000))):=by
 refine D4 func130 O ntmps130 fun a=>q' 8 O<|y' (X.call call26 rfl (DV _ _ _ _))<|U 4 O<|A0 O O<|A8 ?_
 first|rfl|(simp[*];done)
theorem A4d(m:Mem)(n:Int):Exact prog 129 #[J n] m (.bool (decide (¬(-50000≤n∧n≤50000)))):=by
 refine D4 func129 O ntmps129 fun a=>q' 8 O<|y' (X.call call130 rfl (Rz _ _))<|y' (Cu rfl)<|U 4 O<|A0 O O<|A8 ?_
 first|rfl|(simp[*];done)
theorem A2F(m:Mem)(n:Int):Exact prog 131 #[J n] m (.bool (decide (¬(-50000≤n∧n≤50000)))):=by
 refine D4 func131 O ntmps131 fun a=>q' 8 O<|y' (X.call call130 rfl (Rz _ _))<|y' (Cu rfl)<|U 4 O<|A0 O O<|A8 ?_
 first|rfl|(simp[*];done)
theorem Ru(m:Mem){v:Value}{l:List Int}(hl:Sl m v l):Exact prog 176 #[v,Fc 129] m (J (Jq l)):=by
 refine have g:=hl.le;D4 func176 O ntmps176 fun c=>q' 9 O<|l' hl O<|U 4 O ?_
 refine J4 (fun(k:Nat)=>l.length-k) (fun k=>[]) (fun k=>[(0,v),(1,.func (.func 129) #[] [].toArray),(7,J l.length),(8,J k)]) (fun k=>k≤l.length∧(∀j,j<k→-50000≤gt l j∧gt l j≤50000)) 0 ?_ ?_
 ·exact⟨EF _,fun j a=>absurd a (R' _)⟩
 rintro k ⟨o,hall⟩
 refine q' 2 O<|c' (X.lss O O) (fun d=>?_) fun d=>?_
 ·refine U 19 O<|x' k hl O O fun n b=>i' b O<|e' (E1 call129 rfl rfl (A4d _ (gt l k))) (fun f=>?_) fun f=>?_
  ·refine U 15 O<|A0 O O<|A8 ?_
   first|exact B0 (Dx (by omega) hall ‹_›).symm|exact B0 (Ep (fun j a=>hall j (by omega))).symm
  exact U 11 O<|I6 (k+1)<|⟨by omega,fun j a=>by rcases Sc.1 a with h|h;exact hall j h;subst h;(first|assumption|(apply Sj;assumption))⟩
 refine U 15 O<|A0 O O<|A8 ?_
 first|exact B0 (Dx (by omega) hall ‹_›).symm|exact B0 (Ep (fun j a=>hall j (by omega))).symm
theorem A0w(m:Mem){v:Value}{l:List Int}(hl:Sl m v l):Exact prog 176 #[v,Fc 131] m (J (Jq l)):=by
 refine have g:=hl.le;D4 func176 O ntmps176 fun c=>q' 9 O<|l' hl O<|U 4 O ?_
 refine J4 (fun(k:Nat)=>l.length-k) (fun k=>[]) (fun k=>[(0,v),(1,.func (.func 131) #[] [].toArray),(7,J l.length),(8,J k)]) (fun k=>k≤l.length∧(∀j,j<k→-50000≤gt l j∧gt l j≤50000)) 0 ?_ ?_
 ·exact⟨EF _,fun j a=>absurd a (R' _)⟩
 rintro k ⟨o,hall⟩
 refine q' 2 O<|c' (X.lss O O) (fun d=>?_) fun d=>?_
 ·refine U 19 O<|x' k hl O O fun n b=>i' b O<|e' (E1 call131 rfl rfl (A2F _ (gt l k))) (fun f=>?_) fun f=>?_
  ·refine U 15 O<|A0 O O<|A8 ?_
   first|exact B0 (Dx (by omega) hall ‹_›).symm|exact B0 (Ep (fun j a=>hall j (by omega))).symm
  exact U 11 O<|I6 (k+1)<|⟨by omega,fun j a=>by rcases Sc.1 a with h|h;exact hall j h;subst h;(first|assumption|(apply Sj;assumption))⟩
 refine U 15 O<|A0 O O<|A8 ?_
 first|exact B0 (Dx (by omega) hall ‹_›).symm|exact B0 (Ep (fun j a=>hall j (by omega))).symm
theorem OP(m:Mem){v:Value}{l:List Int}(hl:Sl m v l):Exact prog 97 #[v,Fc 129] m (.bool (decide (¬FB l))):=by
 exact D4 func97 O ntmps97 fun a=>q' 9 O<|y' (X.call call176 rfl (Ru _ hl))<|U 5 O<|A0 O O<|A8<|D8 (Nm l)
theorem NM(m:Mem){v:Value}{l:List Int}(hl:Sl m v l):Exact prog 97 #[v,Fc 131] m (.bool (decide (¬FB l))):=by
 exact D4 func97 O ntmps97 fun a=>q' 9 O<|y' (X.call call176 rfl (A0w _ hl))<|U 5 O<|A0 O O<|A8<|D8 (Nm l)
theorem JH{G:Prop}(h:G:=by first|exact B0 (by unfold O2;rw[D' ⟨by omega,by first|assumption|(apply Sj;assumption)⟩])|exact B0 (by unfold O2;rw[A' (fun h_=>by have h1_:=h_.1;omega)])|exact B0 (by unfold O2;rw[A' (fun h_=>absurd h_.2 ‹_›)])):G:=h
theorem B3T(m:Mem)(vl:Value)(l:List Int)(hl:Sl m vl l):Exact prog 69 #[vl] m (J (O2 l)):=by
 refine have ll:=hl.le;D4 func69 O ntmps69 fun a=>q' 9 O<|l' hl O<|c' (X.call call26 rfl (DV _ _ _ _)) (fun b=>?_) fun b=>?_
 ·refine U 5 O<|e' (X.call call97 rfl (NM _ hl)) (fun c=>?_) fun c=>?_
  ·exact U 11 O<|A0 O O<|A8<|JH
  exact U 12 O<|A0 O O<|A8<|JH
 exact U 15 O<|A0 O O<|A8<|JH
theorem Iv{G:Prop}(h:G:=by first|exact B0 (by unfold X0;rw[D' (by omega)])|exact B0 (by unfold X0;rw[A' (by omega),D' (by first|assumption|(apply Sj;assumption))])|exact B0 (by unfold X0;rw[A' (by omega),A' ‹_›])):G:=h
theorem B1N(m:Mem)(cp:List Value)(p:Pen)(hp:Enc.rd m cp p)(vl:Value)(l:List Int)(hl:Sl m vl l):Exact prog 68 #[.agg cp.toArray,vl] m (J (X0 p l)):=by
 obtain rfl:=hp
 refine have ll:=hl.le;D4 func68 O ntmps68 fun a=>q' 2 O<|o' O O fun d=>U 6 O<|a' 0 O O<|y' (X.call call8 rfl (Mp _ _ p rfl))<|U 6 O<|e' (X.neq O O) (fun b=>?_) fun b=>?_
 ·exact U 11 O<|A0 O O<|A8<|Iv
 refine U 9 O<|e' (X.call call97 rfl (OP _ hl)) (fun c=>?_) fun c=>?_
 ·exact U 10 O<|A0 O O<|A8<|Iv
 exact U 11 O<|A0 O O<|A8<|Iv
theorem Rj(m:Mem)(x:Int):Exact prog 169 #[J x] m (.bool false):=by
 refine D4 func169 O ntmps169 fun a=>q' 9 O<|y' (OpX.f (X.neq rfl rfl) (fun h=>h rfl))<|U 4 O<|A0 O O<|A8 ?_
 first|rfl|(simp[*];done)
theorem B2n(m:Mem)(x:Int)(y:Int):Exact prog 280 #[J x,J y] m (.bool (decide (x<y))):=by
 refine D4 func280 O ntmps280 fun a=>q' 8 O<|y' (X.call call169 rfl (Rj _ _))<|U 17 O<|A0 O O<|A8 ?_
 first|rfl|(simp[*];done)
theorem B4N(m:Mem){z:Int}(hz:0≤z∧z≤255):Pure prog 273 #[.int .u64 z] m (fun _ u=>∃r:Int,(0≤r∧r≤255)∧u=J r):=by
 exact F6 func273 O ntmps273 fun a=>q' 9 O<|y' (OpX.f (X.geq rfl rfl) (by omega))<|U 9 O<|y' (OpX.f (X.geq rfl rfl) (by omega))<|U 9 O<|y' (OpX.f (X.geq rfl rfl) (by omega))<|U 9 O<|y' (O8 runUnderlying410 runUnderlying5 rfl (Fw (by omega) (by omega)))<|Q9 (A9V 256 runUnderlying9 rfl rfl (by kernel_rfl) (by omega) (by omega)) (by decide) fun b c=>y' (O8 runUnderlying5 runUnderlying3 rfl (P7 (by omega) (by omega)))<|U 5 O<|A0 O O<|C2<|⟨_,by omega,rfl⟩
theorem B5a(m:Mem){z:Int}(hz:0≤z∧z≤255):Pure prog 225 #[.int .u64 z] m (fun _ u=>∃r:Int,(0≤r∧r≤255)∧u=J r):=by
 refine F6 func225 O ntmps225 fun c=>q' 12 O ?_
 refine C0 (T.call call273 rfl (B4N _ (z:=z) (by omega))) (by decide) (fun d _ b a=>?_)
 obtain⟨f,g,rfl⟩:=a
 exact U 4 O<|A0 O O<|C2<|⟨_,by omega,rfl⟩
theorem B4b(m:Mem){v:Value}{L:List Int}(hL:L.length≤12){z0 zb:Int}(hz0:z0=0)(hz:zb=L.length):Mut prog 274 #[v,J z0,J zb] m [A5 v 3 L] (fun _ Es u=>u= .tuple #[]∧∃R,Es=[A5 v 3 R]∧R.Perm L∧Srt id R 0 L.length):=by
 subst hz0 hz
 refine G3 func274 O ntmps274 fun r=>q' 8 O ?_
 refine S5 (fun(i:Nat) (R:List Int)=>L.length-i) (fun i R=>[A5 (v) 3 (R)]) (fun i R=>[(0,v),(1,J 0),(2,J L.length),(6,J i)]) (fun i R=>1≤i∧R.Perm L∧Srt id R 0 i) 1 L ?_ ?_
 ·exact⟨E' _,.refl _,.one id _ 0⟩
 rintro i R ⟨hi,g,o⟩
 refine have y:=g.length_eq;q' 5 O<|c' (X.lss O O) (fun s=>?_) fun s=>?_
 ·refine U 14 O ?_
  refine S5 (fun(j:Nat) (R:List Int)=>j) (fun j R=>[A5 (v) 3 (R)]) (fun j R=>[(0,v),(1,J 0),(2,J L.length),(6,J i),(7,J j)]) (fun j R=>InsI id L R 0 i j) i R ?_ ?_
  ·exact A5b g o (by omega)
  rintro j R c
  try dsimp only at c
  refine have b:=c;have z:=b.perm.length_eq;have A:=b.bd;q' 2 O<|B9 15 [] []<|U' 2 O<|C' O O (X.gtr O O) (fun t=>?_) fun t=>?_
  ·refine U' 3 O<|Z O O (Fx (k:=0) j runUnderlying27 sizeOf3 rfl rfl rfl (by omega) (by first|omega|(simp;omega)|simp))<|Z O O (GV (k:=0) (i:=j) isAgg3 rfl rfl (by first|omega|(simp;omega)|simp))<|U' 3 O<|Z O O (Fx (k:=0) (j-1) runUnderlying27 sizeOf3 rfl rfl rfl (by omega) (by first|omega|(simp;omega)|simp))<|Z O O (GV (k:=0) (i:=(j-1)) isAgg3 rfl rfl (by first|omega|(simp;omega)|simp))<|C' O O (X.call call280 rfl (B2n _ _ _)) (fun w=>?_) fun w=>?_
   ·refine U' 1 O<|V' 6 O<|B9 18 [15,17] [15,17,100004]<|U' 4 O<|J2 O O O (fun _ _ n=>(X.sub rfl rfl (by omega) (by omega))) (by decide)<|U' 3 O<|Z O O (Fx (k:=0) (j-1) runUnderlying27 sizeOf3 rfl rfl rfl (by omega) (by first|omega|(simp;omega)|simp))<|Z O O (GV (k:=0) (i:=(j-1)) isAgg3 rfl rfl (by first|omega|(simp;omega)|simp))<|U' 2 O<|Z O O (Fx (k:=0) j runUnderlying27 sizeOf3 rfl rfl rfl (by omega) (by first|omega|(simp;omega)|simp))<|Z O O (GV (k:=0) (i:=j) isAgg3 rfl rfl (by first|omega|(simp;omega)|simp))<|Z O O (Fx (k:=0) j runUnderlying27 sizeOf3 rfl rfl rfl (by omega) (by first|omega|(simp;omega)|simp))<|B4 O O O O (A0l (k:=0) (i:=j) sizeOf3 rfl rfl rfl (by first|omega|(simp;omega)|simp))<|Z O O (Fx (k:=0) (j-1) runUnderlying27 sizeOf3 rfl rfl rfl (by omega) (by first|omega|(simp;omega)|simp))<|B4 O O O O (A0l (k:=0) (i:=(j-1)) sizeOf3 rfl rfl rfl (by first|omega|(simp;omega)|simp))<|V' 8 O ?_
    obtain⟨l,d⟩:∃qq__:Nat,(↑j-1:Int)=(qq__:Int):=⟨(↑j-1:Int).toNat,(by omega)⟩
    rw[d]
    obtain rfl:l=j-1:=(by omega)
    exact K2 (j-1) ((R.set j (gt R ((j-1)))).set ((j-1)) (gt R j))<|A7W b (by omega) ‹_›
   refine U' 1 O<|V' 8 O ?_
   have a:=A1k b (fun x f=>by first|omega|contradiction)
   exact q' 6 O<|K2 (i+1) R<|⟨by omega,a.1,a.2⟩
  refine U' 12 O<|V' 8 O ?_
  have a:=A1k b (fun x f=>by first|omega|contradiction)
  exact q' 6 O<|K2 (i+1) R<|⟨by omega,a.1,a.2⟩
 refine U 7 O<|D0 O<|I2 ?_
 refine⟨rfl,R,rfl,g,?_⟩
 intro p q h1_ h2_ B
 exact o p q h1_ h2_ (by omega)
theorem B3W(m:Mem){v:Value}{L:List Int}(hL:L.length≤12){z0 zb zl:Int}(hz0:z0=0)(hz:zb=L.length):Mut prog 226 #[v,J z0,J zb,J zl] m [A5 v 3 L] (fun _ Es u=>u= .tuple #[]∧∃R,Es=[A5 v 3 R]∧R.Perm L∧Srt id R 0 L.length):=by
 subst hz0 hz
 refine G3 func226 O ntmps226 fun g=>q' 11 O ?_
 refine J4 (fun(a:Unit)=>0) (fun a=>[A5 (v) 3 (L)]) (fun a=>[(0,v),(1,J 0),(2,J L.length),(3,J zl),(8,.bool true),(9,.bool true)]) (fun a=>True) () ?_ ?_
 ·trivial
 rintro a c
 refine have l:=c;q' 13 O<|y' (OpX.t (X.leq rfl rfl) (by omega))<|U 8 O ?_
 refine C5 (C8 (A:=[]) call274 rfl (.refl _) (B4b _ (L:=L) (by omega) (by omega) (by omega))) (by decide) (fun n k _ f b=>?_)
 obtain⟨rfl,R4,rfl,d⟩:=b
 exact U 7 O<|E9 O<|I2<|⟨rfl,_,rfl,d⟩
theorem B2O(m:Mem){v:Value}{L:List Int}(hL:L.length≤12):Mut prog 150 #[v] m [A5 v 3 L] (fun _ Es u=>u= .tuple #[]∧∃R,Es=[A5 v 3 R]∧R.Perm L∧Srt id R 0 L.length):=by
 refine G3 func150 O ntmps150 fun f=>q' 3 O<|y' (V8 (k:=0) runUnderlying27 rfl rfl)<|U 7 O<|y' (O8 runUnderlying3 runUnderlying358 rfl (U2 (by omega) (by omega))) ?_
 refine C0 (T.call call225 rfl (B5a _ (z:=↑L.length) (by omega))) (by decide) (fun l _ c a=>?_)
 obtain⟨o,p,rfl⟩:=a
 refine C5 (C8 (A:=[]) call226 rfl (.refl _) (B3W _ (L:=L) (by omega) (by omega) (by omega))) (by decide) (fun n g _ d a=>?_)
 obtain⟨rfl,R7,rfl,b⟩:=a
 exact U 1 O<|D0 O<|I2<|⟨rfl,_,rfl,b⟩
theorem A9y(m:Mem){v:Value}{x y z:Int}:Mut prog 79 #[v] m [A5 v 3 [x,y,z]] (fun _ Es u=>Es=[]∧u=J (max (min x y) (min (max x y) z))):=by
 refine G3 func79 O ntmps79 fun l=>q' 8 O ?_
 refine C5 (C8 (A:=[]) call150 rfl (.refl _) (B2O _ (L:=[x,y,z]) (by first|omega|(simp;done)|decide))) (by decide) (fun o n _ f c=>?_)
 obtain⟨rfl,R3,rfl,a⟩:=c
 refine U 3 O ?_
 have g:R3.length=3:=a.1.length_eq
 refine have b:=A6M a.1 a.2;q' 3 O<|y' (V8 (k:=0) runUnderlying27 rfl rfl)<|y' (X.quo rfl rfl (by omega) (by omega) (by omega))<|y' (A5M (k:=0) runUnderlying27 sizeOf3 rfl rfl rfl (by first|omega|(simp;omega)|simp) (by first|omega|(simp;omega)|simp))<|y' (GV (k:=0) (i:=(↑R3.length/2:Int).toNat) isAgg3 rfl rfl (by first|omega|(simp;omega)|simp))<|U 4 O ?_
 refine A0 rfl rfl (fun w' d=>B3 (d.weaken (.cons _ .slnil)) ?_)
 refine⟨rfl,B0 ?_⟩
 rw[←b]
 congr 1
 omega
theorem B4f(m:Mem)(cp:List Value)(p:Pen)(hp:Enc.rd m cp p)(s:Int)(r:Int)(hb:0≤p.Band∧p.Band≤8)(hr: -200000≤r∧r≤200000):Exact prog 33 #[.agg cp.toArray,J s,J r] m (J (BF p.Band s r)):=by
 obtain rfl:=hp
 refine D4 func33 O ntmps33 fun d=>q' 2 O<|o' O O fun f=>U 7 O<|f' O t'<|f' O t'<|b' 0 O O O<|U 2 O<|f' O t'<|f' O t'<|b' 0 O O O<|U 1 O ?_
 refine G2 (Ra (vals:=[J s,J (r-p.Band),J (r+p.Band)]) (L:=[s,r-p.Band,r+p.Band]) Y1 rfl rfl (by intro v c;simp at c;rcases c with rfl|rfl|rfl <;> rfl) rfl rfl rfl) (by decide) (fun k=>?_)
 refine C5 (C8 (A:=[blk f 113 [J p.Band,J p.Zero.Lo,J p.Zero.Hi,J p.Rate]]) call79 rfl (.refl _) (A9y _)) (by decide) (fun l g _ b a=>?_)
 obtain⟨rfl,rfl⟩:=a
 exact U 4 O<|A0 O O<|A8<|B0 (by unfold BF;omega)
theorem AJ(m:Mem)(n:Int)(lo:Int)(hi:Int):Exact prog 74 #[J n,J lo,J hi] m (.bool (decide (lo≤n∧n≤hi))):=by
 refine D4 func74 O ntmps74 fun a=>q' 9 O<|c' (X.geq O O) (fun b=>?_) fun b=>?_
 ·refine U 12 O<|A0 O O<|A8 ?_
  first|exact D5 (by omega)|exact B2 (by omega)|exact D8 (by omega)
 refine U 9 O<|A0 O O<|A8 ?_
 first|exact D5 (by omega)|exact B2 (by omega)|exact D8 (by omega)
theorem EZ(m:Mem)(cs:List Value)(s:Span)(hs:Enc.rd m cs s):Exact prog 221 #[.agg cs.toArray] m (.bool (decide (CL s))):=by
 obtain rfl:=hs
 refine D4 func221 O ntmps221 fun a=>q' 2 O<|o' O O fun c=>U 5 O<|f' O t'<|b' 0 O O O<|f' O t'<|b' 0 O O O<|c' (X.call call74 rfl (AJ _ _ _ _)) (fun b=>?_) fun b=>?_
 ·refine U 2 O<|f' O t'<|U 1 O<|b' 0 O O O<|U 7 O<|A0 O O<|A8 ?_
  first|exact D5 (by unfold CL;omega)|exact B2 (by unfold CL;omega)|exact D8 (by unfold CL;omega)
 refine U 9 O<|A0 O O<|A8 ?_
 first|exact D5 (by unfold CL;omega)|exact B2 (by unfold CL;omega)|exact D8 (by unfold CL;omega)
theorem D9{G:Prop}(h:G:=by first|exact B0 (A6a (by unfold K6;first|omega|(rintro⟨h1_,h2_,h3_,h4_,h5_⟩;first|omega|contradiction))).symm|exact B0 (A3O ⟨by omega,by omega,by omega,by assumption,by assumption⟩).symm):G:=h
theorem LB(m:Mem)(cp:List Value)(p:Paper)(hp:Enc.rd m cp p):Exact prog 141 #[.agg cp.toArray] m (J (BH p)):=by
 obtain rfl:=hp
 refine D4 func141 O ntmps141 fun D=>q' 2 O<|o' O O fun N=>U 5 O<|f' O t'<|b' 0 O O O<|c' (X.call call74 rfl (AJ _ _ _ _)) (fun E=>?_) fun E=>?_
 ·refine U 2 O<|f' O t'<|U 1 O<|b' 0 O O O<|U 1 O<|c' (X.call call74 rfl (AJ _ _ _ _)) (fun F=>?_) fun F=>?_
  ·refine U 3 O<|f' O t'<|U 1 O<|b' 0 O O O<|U 1 O<|c' (X.eql O O) (fun G=>?_) fun G=>?_
   ·refine U 15 O<|f' O t'<|b' 0 O O O<|c' (X.geq O O) (fun H=>?_) fun H=>?_
    ·refine U 2 O<|f' O t'<|U 1 O<|b' 0 O O O<|U 1 O<|f' O t'<|U 1 O<|b' 0 O O O<|U 1 O<|c' (X.lss O O) (fun I=>?_) fun I=>?_
     ·refine U 3 O<|f' O t'<|U 1 O<|b' 0 O O O<|U 1 O<|c' (X.leq O O) (fun K=>?_) fun K=>?_
      ·refine U 3 O<|f' O t'<|U 1 O<|b' 0 O O O<|U 1 O<|f' O t'<|U 1 O<|b' 0 O O O<|U 3 O<|f' O t'<|U 1 O<|b' 0 O O O<|U 1 O<|c' (X.leq O O) (fun L=>?_) fun L=>?_
       ·refine U 17 O<|f' O t'<|U 1 O<|b' 0 O O O<|U 1 O<|c' (X.call call74 rfl (AJ _ _ _ _)) (fun M=>?_) fun M=>?_
        ·refine U 5 O<|f' O t'<|U 1 O<|y' (J5 (k:=0) (vs:=[J p.Along.Lo,J p.Along.Hi]) isAgg23 sizeOf23 rfl rfl rfl rfl)<|U 1 O<|c' (X.call call221 rfl (EZ _ _ p.Along rfl)) (fun a=>?_) fun a=>?_
         ·refine U 5 O<|f' O t'<|U 1 O<|y' (J5 (k:=0) (vs:=[J p.Across.Lo,J p.Across.Hi]) isAgg23 sizeOf23 rfl rfl rfl rfl)<|U 1 O<|c' (X.call call221 rfl (EZ _ _ p.Across rfl)) (fun b=>?_) fun b=>?_
          ·exact U 14 O<|A0 O O<|A8<|D9
          exact U 13 O<|A0 O O<|A8<|D9
         exact U 19 O<|A0 O O<|A8<|D9
        exact U 25 O<|A0 O O<|A8<|D9
       exact U 43 O<|A0 O O<|A8<|D9
      exact U 53 O<|A0 O O<|A8<|D9
     exact U 58 O<|A0 O O<|A8<|D9
    exact U 64 O<|A0 O O<|A8<|D9
   refine U 3 O<|f' O t'<|U 1 O<|b' 0 O O O<|U 1 O<|f' O t'<|U 1 O<|b' 0 O O O<|U 1 O<|c' (X.call call74 rfl (AJ _ _ _ _)) (fun c=>?_) fun c=>?_
   ·refine U 8 O<|f' O t'<|b' 0 O O O<|c' (X.geq O O) (fun d=>?_) fun d=>?_
    ·refine U 2 O<|f' O t'<|U 1 O<|b' 0 O O O<|U 1 O<|f' O t'<|U 1 O<|b' 0 O O O<|U 1 O<|c' (X.lss O O) (fun f=>?_) fun f=>?_
     ·refine U 3 O<|f' O t'<|U 1 O<|b' 0 O O O<|U 1 O<|c' (X.leq O O) (fun g=>?_) fun g=>?_
      ·refine U 3 O<|f' O t'<|U 1 O<|b' 0 O O O<|U 1 O<|f' O t'<|U 1 O<|b' 0 O O O<|U 3 O<|f' O t'<|U 1 O<|b' 0 O O O<|U 1 O<|c' (X.leq O O) (fun l=>?_) fun l=>?_
       ·refine U 17 O<|f' O t'<|U 1 O<|b' 0 O O O<|U 1 O<|c' (X.call call74 rfl (AJ _ _ _ _)) (fun n=>?_) fun n=>?_
        ·refine U 5 O<|f' O t'<|U 1 O<|y' (J5 (k:=0) (vs:=[J p.Along.Lo,J p.Along.Hi]) isAgg23 sizeOf23 rfl rfl rfl rfl)<|U 1 O<|c' (X.call call221 rfl (EZ _ _ p.Along rfl)) (fun o=>?_) fun o=>?_
         ·refine U 5 O<|f' O t'<|U 1 O<|y' (J5 (k:=0) (vs:=[J p.Across.Lo,J p.Across.Hi]) isAgg23 sizeOf23 rfl rfl rfl rfl)<|U 1 O<|c' (X.call call221 rfl (EZ _ _ p.Across rfl)) (fun q=>?_) fun q=>?_
          ·exact U 14 O<|A0 O O<|A8<|D9
          exact U 13 O<|A0 O O<|A8<|D9
         exact U 19 O<|A0 O O<|A8<|D9
        exact U 25 O<|A0 O O<|A8<|D9
       exact U 43 O<|A0 O O<|A8<|D9
      exact U 53 O<|A0 O O<|A8<|D9
     exact U 58 O<|A0 O O<|A8<|D9
    exact U 64 O<|A0 O O<|A8<|D9
   refine U 8 O<|f' O t'<|b' 0 O O O<|c' (X.geq O O) (fun r=>?_) fun r=>?_
   ·refine U 2 O<|f' O t'<|U 1 O<|b' 0 O O O<|U 1 O<|f' O t'<|U 1 O<|b' 0 O O O<|U 1 O<|c' (X.lss O O) (fun s=>?_) fun s=>?_
    ·refine U 3 O<|f' O t'<|U 1 O<|b' 0 O O O<|U 1 O<|c' (X.leq O O) (fun t=>?_) fun t=>?_
     ·refine U 3 O<|f' O t'<|U 1 O<|b' 0 O O O<|U 1 O<|f' O t'<|U 1 O<|b' 0 O O O<|U 3 O<|f' O t'<|U 1 O<|b' 0 O O O<|U 1 O<|c' (X.leq O O) (fun u=>?_) fun u=>?_
      ·exact U 41 O<|A0 O O<|A8<|D9
      exact U 41 O<|A0 O O<|A8<|D9
     exact U 51 O<|A0 O O<|A8<|D9
    exact U 56 O<|A0 O O<|A8<|D9
   exact U 62 O<|A0 O O<|A8<|D9
  refine U 18 O<|f' O t'<|b' 0 O O O<|c' (X.geq O O) (fun v=>?_) fun v=>?_
  ·refine U 2 O<|f' O t'<|U 1 O<|b' 0 O O O<|U 1 O<|f' O t'<|U 1 O<|b' 0 O O O<|U 1 O<|c' (X.lss O O) (fun w=>?_) fun w=>?_
   ·refine U 3 O<|f' O t'<|U 1 O<|b' 0 O O O<|U 1 O<|c' (X.leq O O) (fun x=>?_) fun x=>?_
    ·refine U 3 O<|f' O t'<|U 1 O<|b' 0 O O O<|U 1 O<|f' O t'<|U 1 O<|b' 0 O O O<|U 3 O<|f' O t'<|U 1 O<|b' 0 O O O<|U 1 O<|c' (X.leq O O) (fun y=>?_) fun y=>?_
     ·exact U 41 O<|A0 O O<|A8<|D9
     exact U 41 O<|A0 O O<|A8<|D9
    exact U 51 O<|A0 O O<|A8<|D9
   exact U 56 O<|A0 O O<|A8<|D9
  exact U 62 O<|A0 O O<|A8<|D9
 refine U 22 O<|f' O t'<|b' 0 O O O<|c' (X.geq O O) (fun z=>?_) fun z=>?_
 ·refine U 2 O<|f' O t'<|U 1 O<|b' 0 O O O<|U 1 O<|f' O t'<|U 1 O<|b' 0 O O O<|U 1 O<|c' (X.lss O O) (fun A=>?_) fun A=>?_
  ·refine U 3 O<|f' O t'<|U 1 O<|b' 0 O O O<|U 1 O<|c' (X.leq O O) (fun B=>?_) fun B=>?_
   ·refine U 3 O<|f' O t'<|U 1 O<|b' 0 O O O<|U 1 O<|f' O t'<|U 1 O<|b' 0 O O O<|U 3 O<|f' O t'<|U 1 O<|b' 0 O O O<|U 1 O<|c' (X.leq O O) (fun C=>?_) fun C=>?_
    ·exact U 41 O<|A0 O O<|A8<|D9
    exact U 41 O<|A0 O O<|A8<|D9
   exact U 51 O<|A0 O O<|A8<|D9
  exact U 56 O<|A0 O O<|A8<|D9
 exact U 62 O<|A0 O O<|A8<|D9
theorem Ct{G:Prop}(h:G:=by first|exact⟨_,G4 (B0 (A3t (by omega)).symm) rfl⟩|exact⟨_,G4 (B0 (A4D (by omega) (fun h_=>by have h1_:=h_ k (by omega);unfold O5 at h1_;omega)).symm) rfl⟩|exact⟨_,G4 (B0 (A3A (by omega) (fun j hj=>hall j (by omega))).symm) rfl⟩):G:=h
theorem RP(m:Mem){v:Value}{l:List Point}(hl:Sl m v l):Pure prog 142 #[v] m (fun _ u=>∃i:Int,u= .tuple #[J (Cy l),J i]):=by
 refine have q:=hl.le;F6 func142 O ntmps142 fun g=>q' 10 O<|l' hl O<|c' (X.gtr O O) (fun n=>?_) fun n=>?_
 ·exact U 11 O<|B7 O O O<|C2<|Ct
 refine U 9 O<|l' hl O<|U 4 O ?_
 refine J4 (fun(k:Nat)=>l.length-k) (fun k=>[]) (fun k=>[(9,v),(10,J l.length),(11,J k)]) (fun k=>k≤l.length∧(∀j,j<k→O5 (gt l j))) 0 ?_ ?_
 ·exact⟨EF _,fun j a=>absurd a (R' _)⟩
 rintro k ⟨w,hall⟩
 refine q' 2 O<|c' (X.lss O O) (fun o=>?_) fun o=>?_
 ·refine U 11 O<|x' k hl O O fun r b=>g' b O fun s c=>?_
  obtain rfl:=c
  refine n' zeroValue102 O fun t=>U 1 O<|w' 0 O O O<|U 4 O<|f' O t'<|b' 0 O O O<|c' (X.call call74 rfl (AJ _ _ _ _)) (fun p=>?_) fun p=>?_
  ·refine U 3 O<|f' O t'<|U 1 O<|b' 0 O O O<|U 1 O<|c' (X.call call74 rfl (AJ _ _ _ _)) (fun d=>?_) fun d=>?_
   ·refine U 5 O<|f' O t'<|U 1 O<|b' 0 O O O<|U 1 O<|c' (X.call call74 rfl (AJ _ _ _ _)) (fun f=>?_) fun f=>?_
    ·exact U 14 O<|I6 (k+1)<|⟨by omega,fun j a=>by rcases Sc.1 a with h|h;exact hall j h;subst h;(unfold O5;omega)⟩
    exact U 19 O<|B7 O O O<|C2<|Ct
   exact U 25 O<|B7 O O O<|C2<|Ct
  exact U 29 O<|B7 O O O<|C2<|Ct
 exact U 16 O<|B7 O O O<|C2<|Ct
theorem HE(m:Mem)(a:Int)(b:Int)(hpa: -1000000000000≤a∧a≤1000000000000)(hpb:0<b):Exact prog 147 #[J a,J b] m (J (a/b)):=by
 refine have f:=B3f (b:=b) (B:=1000000000000) hpa;D4 func147 O ntmps147 fun c=>q' 9 O<|y' (B4h rfl rfl (by omega) (by omega) (by omega))<|U 8 O<|y' (B3Y rfl rfl (by omega))<|c' (X.lss O O) (fun d=>?_) fun d=>?_
 ·refine U 16 O<|A0 O O<|A8 ?_
  first|exact B0 (Pm hpb ‹_›)|exact B0 (QP ‹_›)
 refine U 12 O<|A0 O O<|A8 ?_
 first|exact B0 (Pm hpb ‹_›)|exact B0 (QP ‹_›)
theorem PC(m:Mem)(n:Int)(half:Int)(cx:List Value)(x:Span)(hx:Enc.rd m cx x)(hn:0≤n∧n≤400000)(hh:0≤half∧half≤5000)(hpx:CL x):Exact prog 222 #[J n,J half,.agg cx.toArray] m (.agg [J ((F2 n half x).Lo),J ((F2 n half x).Hi)].toArray):=by
 obtain rfl:=hx
 have a:=hpx
 unfold CL at a
 refine D4 func222 O ntmps222 fun c=>q' 2 O<|o' O O fun d=>n' zeroValue23 O fun g=>U 3 O<|B9 17 [16] [16]<|U' 3 O<|Z O O (X.mul rfl rfl (by omega) (by omega))<|Z O O (A.f O)<|Z O O (A.b 1 O O O)<|Z O O (X.call call147 rfl (HE _ _ _ (by omega) (by omega)))<|Z O O (EG rfl rfl)<|U' 3 O<|Z O O (X.mul rfl rfl (by omega) (by omega))<|Z O O (A.f O)<|Z O O (A.b 1 O O O)<|Z O O (X.call call147 rfl (HE _ _ _ (by omega) (by omega)))<|DW.x (V:=Value.agg [J (max 0 ((((n-half)*1000))/x.Hi)),J ((((n+half)*1000))/x.Lo)].toArray) O O (X.build zeroValue23 runUnderlying23 (H6 _ underlying23) rfl rfl) (by decide) ?_
 exact W' 0 O O O O O<|V' 2 O<|Ad 0 O O O isAgg23 sizeOf23<|A8<|Ff rfl rfl
theorem A9Y(m:Mem)(cf:List Value)(f:Paper)(hf:Enc.rd m cf f)(ct:List Value)(t:Point)(ht:Enc.rd m ct t)(hpf:K6 f)(hpt:O5 t):Exact prog 144 #[.agg cf.toArray,.agg ct.toArray] m (.agg [J ((F2 t.X t.Half f.Along).Lo),J ((F2 t.X t.Half f.Along).Hi)].toArray):=by
 obtain rfl:=hf
 obtain rfl:=ht
 have hf_:=hpf
 have b:=hpf.2.2.2.1
 have c:=hpf.2.2.2.2
 have a:=hpt
 unfold O5 at a
 exact have l:=hpf.1;have d:=Y6 a.1 a.2.2 b;have g:=Y6 a.2.1 a.2.2 c;D4 func144 O ntmps144 fun n=>q' 2 O<|o' O O fun o=>o' O O fun p=>n' zeroValue23 O fun q=>U 4 O<|f' O t'<|b' 1 O O O<|f' O t'<|b' 1 O O O<|f' O t'<|f' O t'<|y' (J5 (k:=2) (vs:=[J f.Along.Lo,J f.Along.Hi]) isAgg23 sizeOf23 rfl rfl rfl rfl)<|y' (X.call call222 rfl (PC _ _ _ _ f.Along rfl (by omega) (by omega) ‹_›))<|w' 0 O O O<|U 3 O<|Ad 0 O O O isAgg23 sizeOf23<|A8<|Ff rfl rfl
theorem A5U(m:Mem)(cf:List Value)(f:Paper)(hf:Enc.rd m cf f)(ct:List Value)(t:Point)(ht:Enc.rd m ct t)(hpf:K6 f)(hpt:O5 t):Exact prog 223 #[.agg cf.toArray,.agg ct.toArray] m (.agg [J ((F2 t.Y t.Half f.Across).Lo),J ((F2 t.Y t.Half f.Across).Hi)].toArray):=by
 obtain rfl:=hf
 obtain rfl:=ht
 have hf_:=hpf
 have b:=hpf.2.2.2.1
 have c:=hpf.2.2.2.2
 have a:=hpt
 unfold O5 at a
 exact have l:=hpf.1;have d:=Y6 a.1 a.2.2 b;have g:=Y6 a.2.1 a.2.2 c;D4 func223 O ntmps223 fun n=>q' 2 O<|o' O O fun o=>o' O O fun p=>n' zeroValue23 O fun q=>U 4 O<|f' O t'<|b' 1 O O O<|f' O t'<|b' 1 O O O<|f' O t'<|f' O t'<|y' (J5 (k:=2) (vs:=[J f.Across.Lo,J f.Across.Hi]) isAgg23 sizeOf23 rfl rfl rfl rfl)<|y' (X.call call222 rfl (PC _ _ _ _ f.Across rfl (by omega) (by omega) ‹_›))<|w' 0 O O O<|U 3 O<|Ad 0 O O O isAgg23 sizeOf23<|A8<|Ff rfl rfl
theorem A2O(m:Mem)(cf:List Value)(f:Paper)(hf:Enc.rd m cf f)(ct:List Value)(t:Point)(ht:Enc.rd m ct t)(hpf:K6 f)(hpt:O5 t):Exact prog 145 #[.agg cf.toArray,.agg ct.toArray] m (.agg [J ((F2 t.Y t.Half f.Across).Lo),J (min (F2 t.Y t.Half f.Across).Hi f.Height)].toArray):=by
 obtain rfl:=hf
 obtain rfl:=ht
 have hf_:=hpf
 have b:=hpf.2.2.2.1
 have c:=hpf.2.2.2.2
 have a:=hpt
 unfold O5 at a
 exact have l:=hpf.1;have d:=Y6 a.1 a.2.2 b;have g:=Y6 a.2.1 a.2.2 c;D4 func145 O ntmps145 fun n=>q' 2 O<|o' O O fun o=>o' O O fun p=>n' zeroValue23 O fun q=>U 4 O<|a' 2 O O<|a' 1 O O<|y' (X.call call223 rfl (A5U _ _ f rfl _ t rfl ‹_› ‹_›))<|n' zeroValue23 O fun r=>w' 0 O O O<|U 4 O<|f' O t'<|b' 0 O O O<|f' O t'<|f' O t'<|b' 3 O O O<|y' (Hw rfl rfl)<|f' O t'<|G7 (C1 (k:=0) sizeOf3 rfl rfl rfl rfl (J' rfl))<|U 4 O<|a' 0 O O<|w' 1 O O O<|U 3 O<|Ad 1 O O O isAgg23 sizeOf23<|A8<|Ff rfl rfl
theorem PP{G:Prop}(h:G:=by first|exact B0 (by unfold Gz;rw[D' ‹_›])|exact B0 (by unfold Gz;rw[A' ‹_›])):G:=h
theorem B4y(m:Mem)(cf:List Value)(f:Paper)(hf:Enc.rd m cf f)(y:Int)(hpf:K6 f)(hpy:0≤y∧y≤f.Height):Exact prog 146 #[.agg cf.toArray,J y] m (J (Gz f y)):=by
 obtain rfl:=hf
 refine have a:=hpf.1;have b:=hpf.2.1;have k:=Oq hpf hpy;have hl_:=Jd hpf hpy;have l:=Oe hpf hpy;have c:=RD hpf hpy;D4 func146 O ntmps146 fun d=>q' 2 O<|o' O O fun n=>U 6 O<|f' O t'<|f' O t'<|b' 0 O O O<|c' (X.eql O O) (fun g=>?_) fun g=>?_
 ·exact U 10 O<|A0 O O<|A8<|PP
 exact U 8 O<|f' O t'<|f' O t'<|b' 0 O O O<|U 2 O<|y' (X.mul rfl rfl (by omega) (by omega))<|f' O t'<|f' O t'<|b' 0 O O O<|y' (X.mul rfl rfl (by omega) (by omega))<|y' (X.quo rfl rfl (by omega) (by omega) (by omega))<|U 4 O<|A0 O O<|A8<|PP
theorem B1S(m:Mem)(cf:List Value)(f:Paper)(hf:Enc.rd m cf f)(y:Int)(hpf:K6 f)(hpy:0≤y∧y≤f.Height):Exact prog 77 #[.agg cf.toArray,J y] m (J (T0 f y)):=by
 obtain rfl:=hf
 exact have a:=hpf.1;have c:=hpf.2.1;have g:=Oq hpf hpy;have hl_:=Jd hpf hpy;have k:=Oe hpf hpy;D4 func77 O ntmps77 fun d=>q' 2 O<|o' O O fun l=>U 4 O<|B9 18 [] []<|Z O O (A.f O)<|Z O O (A.f O)<|Z O O (A.b 0 O O O)<|U' 1 O<|Z O O (A.f O)<|Z O O (A.f O)<|Z O O (A.b 0 O O O)<|Z O O (A.f O)<|Z O O (A.f O)<|Z O O (A.b 0 O O O)<|U' 1 O<|Z O O (X.mul rfl rfl (by omega) (by omega))<|Z O O (A.f O)<|Z O O (A.f O)<|Z O O (A.b 0 O O O)<|Z O O (X.quo rfl rfl (by omega) (by omega) (by omega))<|U' 2 O<|V' 2 O<|A0 O O<|A8<|B0 rfl
theorem B4e(m:Mem){V v:Value}{e sz n off:Nat}{xs:List Value}{L:List Span}{y:Int}(hxv:xs[off]?=some v)(hB:Cw L)(hn:L.length≤1000000)(hlev:0≤y∧y≤12000):Mut prog 76 #[.pointer (some (rp V off)),J y] m [row V e sz n xs,A5 v 23 L] (fun _ Es u=>u= .tuple #[]∧∃U,Es=[row V e sz n (xs.set off U),A5 U 23 (Bi L ⟨y,y⟩)]∧U.oneCell'=true):=by
 have b:off<xs.length:=(Sq.1 hxv).1
 have o:0<L.length→0≤(gt L (L.length-1)).Hi∧(gt L (L.length-1)).Hi≤12000:=fun g=>(Rw hB (by omega)).2
 refine G3 func76 O ntmps76 fun p=>q' 4 O<|f' O t'<|y' (M3 (k:=0) isAgg28 rfl rfl hxv)<|y' (V8 (k:=1) runUnderlying28 rfl rfl)<|U 7 O<|c' (X.gtr O O) (fun q=>?_) fun q=>?_
 ·refine U 8 O<|f' O t'<|U 1 O<|y' (M3 (k:=0) isAgg28 rfl rfl hxv)<|U 5 O<|y' (A9 1 (L.length-1))<|U 1 O<|f' O t'<|U 1 O<|y' (P2 (k:=1) (i:=L.length-1) (off:=1) (u:=J (((gt L (L.length-1))).Hi)) isAgg3 rfl rfl (by first|omega|(simp;omega)|simp) rfl)<|U 3 O<|c' (X.leq O O) (fun r=>?_) fun r=>?_
  ·refine U 5 O ?_
   refine OB (k:=1) rfl (fun l=>?_)
   exact B9 20 [19] [19]<|U' 2 O<|Z O O (A.f O)<|Z O O (M3 (k:=0) isAgg28 rfl rfl hxv)<|U' 4 O<|Z O O (A.f O)<|Z O O (M3 (k:=0) isAgg28 rfl rfl hxv)<|U' 2 O<|Z O O (A9 1 (L.length-1))<|Z O O (A.f O)<|Z O O (P2 (k:=1) (i:=L.length-1) (off:=1) (u:=J (((gt L (L.length-1))).Hi)) isAgg3 rfl rfl (by first|omega|(simp;omega)|simp) rfl)<|U' 1 O<|Z O O (EG rfl rfl)<|Z O O (A9 1 (L.length-1))<|Z O O (A.f O)<|B4 O O O O (D3 (k:=1) (i:=L.length-1) (off:=1) (us:=[J (max (((gt L (L.length-1))).Hi) y)]) ((Span.mk (((gt L (L.length-1))).Lo) (max (((gt L (L.length-1))).Hi) y))) sizeOf3 rfl rfl rfl rfl (O' _) rfl (by first|omega|(simp;omega)|simp) rfl rfl (A4 rfl C6))<|V' 3 O<|E9 O<|I2<|⟨rfl,v,(by rw[A7R hxv,HX ⟨by omega,by dsimp only;omega⟩] <;> rfl),l⟩
  refine U 10 O<|f' O t'<|y' (M3 (k:=0) isAgg28 rfl rfl hxv)<|U 2 O<|WL.x (V:=Value.agg [J y,J y].toArray) (X.build zeroValue23 runUnderlying23 (H6 _ underlying23) rfl rfl) (by decide) ?_
  refine R0 (G6 K9 rfl rfl rfl (by decide)) (by decide) fun s=>?_
  refine G2 (G1 (k:=1) (a:=(Span.mk (y) (y))) K9 rfl rfl rfl rfl (by first|omega|(simp;done)|(simp;omega)) (by decide)) (by decide) (fun t=>?_)
  refine U 1 O<|f' O t' ?_
  refine E8 (k:=1) rfl (fun c=>?_)
  exact G7 (CN (k:=0) sizeOf28 rfl rfl rfl c b)<|U 1 O<|D0 O<|I2<|⟨rfl,_,(by rw[CY (fun g=>by have h1_:=g.2;dsimp only at h1_;omega)] <;> rfl),c⟩
 refine U 23 O<|f' O t'<|y' (M3 (k:=0) isAgg28 rfl rfl hxv)<|U 2 O<|WL.x (V:=Value.agg [J y,J y].toArray) (X.build zeroValue23 runUnderlying23 (H6 _ underlying23) rfl rfl) (by decide) ?_
 refine R0 (G6 K9 rfl rfl rfl (by decide)) (by decide) fun w=>?_
 refine G2 (G1 (k:=1) (a:=(Span.mk (y) (y))) K9 rfl rfl rfl rfl (by first|omega|(simp;done)|(simp;omega)) (by decide)) (by decide) (fun z=>?_)
 refine U 1 O<|f' O t' ?_
 refine E8 (k:=1) rfl (fun d=>?_)
 exact G7 (CN (k:=0) sizeOf28 rfl rfl rfl d b)<|U 1 O<|D0 O<|I2<|⟨rfl,_,(by rw[CY (fun g=>by have h1_:=g.2;dsimp only at h1_;omega)] <;> rfl),d⟩
end Go.Proofs.T10
