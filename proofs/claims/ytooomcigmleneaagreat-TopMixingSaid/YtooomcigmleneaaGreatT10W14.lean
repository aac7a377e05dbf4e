import Derived.Test.YtooomcigmleneaaGreatKxW
import Derived.Test.YtooomcigmleneaaGreatKyP
import Derived.Test.YtooomcigmleneaaGreatT10Ty
import Derived.Test.YtooomcigmleneaaGreatKxU
import Derived.Test.YtooomcigmleneaaGreatT10Set
import Derived.Test.YtooomcigmleneaaGreatT10W10
import Derived.KernelRfl
set_option linter.all false
set_option maxHeartbeats 4000000
namespace Go.Proofs.T10
open Tryz
set_option maxRecDepth 20000
open Go Go.Kx
theorem B5O(m:Mem){v:Value}{L:List Span}(hL:L.length≤1000000)(hB:bdS L){fc:Nat}{cf:Span→Span→Int}(hC:CmpOk fc cf):Mut prog 148 #[v,Fc fc] m [A5 v 23 L] (fun _ Es u=>u= .tuple #[]∧∃R,Es=[A5 v 23 R]∧R.Perm L∧Srt Span.Lo R 0 R.length):=by
 refine G3 func148 r' ntmps148 fun wld=>q' 3 r'<|y' (S5 (k:=0) runUnderlying28 rfl rfl)<|v' 7 r'<|y' (M0 runUnderlying3 runUnderlying358 rfl (Q1 (by omega) (by omega))) ?_
 refine D1 (T.call call225 rfl (B0H _ (z:=↑L.length) (by omega))) (by decide) (fun m1 _ hle2 hR_=>?_)
 obtain⟨x3,rfl,hr4,hr5⟩:=hR_
 refine v' 1 r' ?_
 refine C2 (C3 (A:=[]) call224 rfl (.refl _) (C5N _ _ (L:=L) (a:=0) (b:=L.length) (by omega) hB hC rfl rfl rfl (Nat.zero_le _) (Nat.le_refl _) (by omega) (.zero _ _))) (by decide) (fun m6 Es_ _ hle7 hR_=>?_)
 obtain⟨rfl,R8,rfl,hR9⟩:=hR_
 exact v' 1 r'<|D9 r'<|G0<|⟨rfl,_,rfl,hR9.1.perm,by rw[hR9.1.len];exact hR9.2⟩
theorem C4q(m:Mem){n:Nat}{zn:Int}(hz:zn=n)(hn:n≤200000):Mut prog 214 #[S0,J zn] m [] (fun _ Es u=>Es=[A5 u 23 ([]:List Span)]∧u.oneCell'=true):=by
 subst hz
 refine G3 func214 r' ntmps214 fun wld=>q' 9 r'<|y' (A1S (X.lss rfl rfl) (by omega))<|v' 10 r'<|y' (X.cap (c:=0) runUnderlying28 rfl)<|v' 1 r'<|y' (A7n runUnderlying28 rfl (q:=0) rfl)<|v' 8 r'<|c' (X.gtr r' r') (fun h1=>?_) fun h1=>?_
 ·refine v' 6 r'<|y' (X.cap (c:=0) runUnderlying28 rfl)<|y' (C4r underlying28 sizeOf23 rfl rfl)<|v' 1 r' ?_
  refine O4 (B6y Q7 underlying3 n rfl rfl (by omega) (by omega) (by decide) (by omega) (by omega)) (by decide) (fun v_ m_ H_ hz_=>?_)
  obtain⟨rfl,g_,c_,zs,rfl,hc_,hzl,rfl⟩:=hz_
  exact v' 1 r'<|y' (A7n runUnderlying28 rfl (q:=0) rfl)<|y' (B2V 0 underlying28 sizeOf23 rfl rfl rfl (by omega) (by omega))<|v' 4 r'<|B9x (k:=0) (h:=0) r' (by omega)<|q' 6 r'<|A0 r' r'<|G0<|⟨congrArg (fun e_=>[e_]) (B1f (α:=Span) (L:=[]) rfl (by rw[Nat.zero_mul];rfl)),rfl⟩
 exact v' 6 r'<|G7 Span 23<|q' 6 r'<|A0 r' r'<|G0<|⟨rfl,rfl⟩
theorem B2a(m:Mem){v:Value}{Ls:List (List Span)}(hL:Sl m v Ls)(hn:Ls.length≤4)(hb:∀i,i<Ls.length→(gt Ls i).length≤50000):Mut prog 128 #[v] m [] (fun _ Es u=>Es=[A5 u 23 (A3K Ls Ls.length)]∧u.oneCell'=true):=by
 refine G3 func128 r' ntmps128 fun wld=>q' 14 r'<|l' hL r'<|v' 4 r' ?_
 refine O6 (fun(k:Nat) (z_:Int)=>Ls.length-k) (fun k z_=>[]) (fun k z_=>[(0,v),(3,J z_),(9,v),(10,J Ls.length),(11,J k)]) (fun k z_=>k≤Ls.length∧z_=(B0E Ls k:Int)) 0 0 ?_ ?_
 ·exact⟨Nat.zero_le _,rfl⟩
 rintro k z_ ⟨hk,hz_⟩
 have hlb:=B1j hb k (by omega)
 refine have hgb:=fun h_:k<Ls.length=>hb k h_;q' 2 r'<|c' (X.lss r' r') (fun h2=>?_) fun h2=>?_
 ·exact v' 10 r'<|x' k hL r' r' fun p3 hp4=>s' hp4 r' fun v5 hs6=>have hl7:=hs6.le;v' 7 r'<|l' hs6 r'<|v' 7 r'<|y' (A1S (X.lss rfl rfl) (by omega))<|v' 11 r'<|J7 (k+1) (z_+(↑(gt Ls k).length))<|⟨by omega,by have h_:=B1B Ls k;omega⟩
 refine v' 12 r' ?_
 refine C2 (J5 call214 rfl (C4q _ (n:=Int.toNat z_) (by omega) (by omega))) (by decide) (fun m8 Es9 v10 hle11 hR_=>?_)
 obtain⟨rfl,ho12⟩:=hR_
 refine have hL:=hL.mono hle11;v' 7 r'<|l' hL r'<|v' 4 r' ?_
 have he13:(([]:List Span))=(A3K Ls 0):=rfl
 rw[he13]
 refine O6 (fun(i:Nat) (vo:Value)=>Ls.length-i) (fun i vo=>[A5 (vo) 23 (A3K Ls i)]) (fun i vo=>[(6,vo),(25,v),(26,J Ls.length),(27,J i)]) (fun i vo=>i≤Ls.length) 0 v10 ?_ ?_
 ·exact Nat.zero_le _
 rintro i vo hF14
 try dsimp only at hF14
 have hi:=hF14
 have hlb:=B1j hb i (by omega)
 unfold B0E at hlb
 refine have hgb:=fun h_:i<Ls.length=>hb i h_;q' 2 r'<|c' (X.lss r' r') (fun h15=>?_) fun h15=>?_
 ·refine v' 10 r'<|x' i hL r' r' fun p16 hp17=>s' hp17 r' fun v18 hs19=>have hl20:=hs19.le;v' 6 r' ?_
  refine G2 (A0G (α:=Span) (fun _ _ _ h=>h) (k:=0) Q7 rfl rfl hs19 rfl (by first|omega|(simp;omega)) (by first|omega|(simp;omega))) (by decide) (fun v21=>?_)
  refine v' 9 r' ?_
  have he22:((A3K Ls i)++(gt Ls i))=(A3K Ls (i+1)):=rfl
  rw[he22]
  exact J7 (i+1) v21<|by omega
 refine v' 11 r' ?_
 refine F7 (k:=0) rfl (fun ho_=>?_)
 obtain rfl:i=Ls.length:=(by omega)
 exact v' 5 r'<|A0 r' r'<|G0<|⟨rfl,ho_⟩
end Go.Proofs.T10
namespace Go.Proofs.T10
open Tryz
set_option maxRecDepth 20000
open Go Go.Kx
theorem C5h(m:Mem){p:Paper}{v:Value}{l:List Point}(hl:Sl m v l):Pure prog 73 #[.agg [J p.Pitch,J p.Height,J p.Radius,J p.Low,J p.High,J p.Columns,J p.Along.Lo,J p.Along.Hi,J p.Across.Lo,J p.Across.Hi].toArray,v] m (fun _ u=>∃f,u= .tuple #[.agg (Flat.enc (α:=Paper) f).toArray,J (A0z p l)]∧(A0z p l=0→f=p)):=by
 refine H7 func73 r' ntmps73 fun wld=>q' 2 r'<|o' r' r' fun b1=>n' zeroValue179 r' fun b2=>v' 6 r'<|a' 1 r' r'<|y' (X.call call141 rfl (A9c _ _ p rfl))<|v' 6 r'<|e' (X.neq r' r') (fun h3=>?_) fun h3=>?_
 ·refine v' 5 r'<|WL.x (V:=Value.agg [J 0,J 0,J 0,J 0,J 0,J 0,J 0,J 0,J 0,J 0].toArray) (X.build zeroValue179 runUnderlying179 (B1K _ underlying179) rfl rfl) (by decide) ?_
  exact v' 1 r'<|w' 0 r' r' r'<|v' 5 r'<|F2 0 r' r' r' r' isAgg179 sizeOf179<|C5<|⟨⟨0,0,0,0,0,0,⟨0,0⟩,⟨0,0⟩⟩,F8 rfl (A8 (B1U (by omega)).symm),fun h_=>by rw[B1U (by omega)]at h_;omega⟩
 refine v' 8 r' ?_
 refine D1 (T.call call142 rfl (B2K _ hl)) (by decide) (fun m4 _ hle5 hR_=>?_)
 obtain⟨z6,rfl⟩:=hR_
 refine v' 9 r'<|a' 1 r' r'<|WL.x (V:=Value.agg [J p.Pitch,J p.Height,J p.Radius,J p.Low,J p.High,J p.Columns,J p.Along.Lo,J p.Along.Hi,J p.Across.Lo,J p.Across.Hi].toArray) (X.build zeroValue179 runUnderlying179 (B1K _ underlying179) rfl (by kernel_rfl)) (by decide) ?_
 exact v' 1 r'<|w' 0 r' r' r'<|v' 4 r'<|F2 0 r' r' r' r' isAgg179 sizeOf179<|C5<|⟨p,F8 rfl (A8 (C0H (by omega)).symm),fun _=>rfl⟩
theorem C3J(m:Mem){f:Paper}{t:Point}{pf pt:Addr}(hpf:At m pf f)(hpt:At m pt t)(hf:I6 f)(ht:N6 t):A1i prog 143 [.pointer (some pf),.pointer (some pt)] m false (P1 f t) (B2p f t):=by
 intro lo S HS I Ix s0 hone hmono hy h0
 have hyb_:=B9Q hf ht
 have ht_:=ht
 unfold N6 at ht_
 refine have hf1_:=hf.1;have hpl1_:=X2 ht_.1 ht_.2.2 hf.2.2.2.1;have hpl2_:=X2 ht_.2.1 ht_.2.2 hf.2.2.2.2;G3 func143 r' ntmps143 fun wld=>?_
 refine cu3 (fun(m1:Mem) (b9:Nat) (b10:Nat)=>m1) (fun m1 b9 b10=>([blk b10 23 [J ((E3 t.Y t.Half f.Across).Lo),J (min (E3 t.Y t.Half f.Across).Hi f.Height)],blk b9 23 [J ((E3 t.X t.Half f.Along).Lo),J ((E3 t.X t.Half f.Along).Hi)]]++HS s0)) (fun m1 b9 b10=>[(0,.func (.yield lo) #[] #[]),(1,.pointer (some (pf))),(4,Pt b9 0),(5,Pt b10 0)]) (fun m1 b9 b10=>m.le m1) ?_ ?_
 ·refine K7 (π:=sq [0,1,2,3,4,5] (.fork (sq [6,7,8,9] .done) (sq [7,6,8,9] .done))) [6,7,8,9] [8,9] r' (by kernel_rfl)<|G' hpf r' r' r' fun c2 hc3=>?_
  obtain rfl:=hc3
  refine G9 rfl rfl (A2s isAgg102 sizeOf102 rfl hpt) (by decide) (fun c4 hc5=>?_)
  obtain rfl:=hc5
  refine Y' r' r' (X.call call144 rfl (C2h _ _ f rfl _ t rfl (by assumption) (by assumption)))<|G' hpf r' r' r' fun c6 hc7=>?_
  obtain rfl:=hc7
  refine G9 rfl rfl (A2s isAgg102 sizeOf102 rfl hpt) (by decide) (fun c8 hc9=>?_)
  obtain rfl:=hc9
  refine DW.y rfl rfl (X.call call145 rfl (B7B _ _ f rfl _ t rfl (by assumption) (by assumption))) ?_
  refine DW.fork (List.cons_ne_nil _ _) ?_ ?_
  ·exact Q9 r' r' r' (T.alloc zeroValue23 rfl) (by decide) fun b10=>Q9 r' r' r' (T.alloc zeroValue23 rfl) (by decide) fun b11=>W' 1 r' r' r' r' r'<|W' 0 r' r' r' r' r'<|V' 1 r'<|mt3 m b10 b11<|Mem.le_refl _
  exact Q9 r' r' r' (T.alloc zeroValue23 rfl) (by decide) fun b12=>Q9 r' r' r' (T.alloc zeroValue23 rfl) (by decide) fun b13=>W' 0 r' r' r' r' r'<|W' 1 r' r' r' r' r'<|V' 1 r'<|WK.perm ([blk b12 23 [J ((E3 t.Y t.Half f.Across).Lo),J (min (E3 t.Y t.Half f.Across).Hi f.Height)],blk b13 23 [J ((E3 t.X t.Half f.Along).Lo),J ((E3 t.X t.Half f.Along).Hi)]]++HS s0) (List.Perm.append_right (HS s0) ((List.Perm.cons _ (.refl _)).trans (List.perm_middle (l₁:=[blk b13 23 [J ((E3 t.X t.Half f.Along).Lo),J ((E3 t.X t.Half f.Along).Hi)]]) (l₂:=[]) (a:=blk b12 23 [J ((E3 t.Y t.Half f.Across).Lo),J (min (E3 t.Y t.Half f.Across).Hi f.Height)])).symm))<|mt3 m b13 b12<|Mem.le_refl _
 rintro m1 b9 b10 hle14
 refine have hpf:=hpf.mono hle14;q' 2 r'<|f' r' t'<|b' 0 r' r' r'<|v' 4 r' ?_
 have hm0_:m.le m1:=hle14
 refine lp (G:=Nat×Int×Mem×S) (fun(k,y,mm,ss)=>P1 f t-k) (fun(k,y,mm,ss)=>mm) (fun(k,y,mm,ss)=>([blk b10 23 [J ((E3 t.Y t.Half f.Across).Lo),J (min (E3 t.Y t.Half f.Across).Hi f.Height)],blk b9 23 [J ((E3 t.X t.Half f.Along).Lo),J ((E3 t.X t.Half f.Along).Hi)]]++HS ss)) (fun(k,y,mm,ss)=>[(0,.func (.yield lo) #[] #[]),(1,.pointer (some (pf))),(4,Pt b9 0),(5,Pt b10 0),(6,J y)]) (fun(k,y,mm,ss)=>m1.le mm∧I k mm ss∧k≤P1 f t∧y=yLo f t+k) ((0,(E3 t.Y t.Half f.Across).Lo,m1,s0)) ?_ ?_
 ·exact⟨Mem.le_refl _,hmono _ _ _ _ hle14 h0,Nat.zero_le _,by unfold yLo;omega⟩
 rintro⟨k,y,mm,ss⟩ hF15
 obtain⟨hmm,hI,hk,hy_⟩:=hF15
 replace hpf:=hpf.mono hmm
 have hkn_:=hk
 unfold P1 yLo yHi at hkn_
 have hyl_:yLo f t=(E3 t.Y t.Half f.Across).Lo:=rfl
 refine q' 4 r'<|f' r' t'<|b' 0 r' r' r'<|c' (X.leq r' r') (fun h16=>?_) fun h16=>?_
 ·refine v' 9 r'<|g' hpf r' fun c17 hc18=>?_
  obtain rfl:=hc18
  refine v' 1 r'<|y' (X.call call146 rfl (C5L _ _ f rfl _ (by assumption) (by omega)))<|v' 4 r' ?_
  have hab_:=B3E hf (y:=y) (by omega)
  refine B4 21 [19] [19]<|U' 2 r'<|Y' r' r' (A.f r')<|Y' r' r' (A.b 1 r' r' r')<|U' 2 r'<|have hp19:=At.zero hpf;Y' r' r' (A.f r')<|have hp20:=A5R hp19;Y' r' r' (A.f r')<|Y' r' r' (A.i r' hp20)<|Y' r' r' (X.call call147 rfl (A6I _ _ _ (by omega) (by omega)))<|Y' r' r' (A.f r')<|Y' r' r' (A.b 1 r' r' r')<|U' 2 r'<|have hp21:=At.zero hpf;Y' r' r' (A.f r')<|have hp22:=A5R hp21;Y' r' r' (A.f r')<|Y' r' r' (A.i r' hp22)<|Y' r' r' (X.call call147 rfl (A6I _ _ _ (by omega) (by omega)))<|DW.x (V:=Value.agg [J (((((E3 t.X t.Half f.Along).Lo)-(A5p f y)))/f.Pitch),J (((((E3 t.X t.Half f.Along).Hi)-(A5p f y)))/f.Pitch)].toArray) r' r' (X.build zeroValue23 runUnderlying23 (H3 _ underlying23) rfl rfl) (by decide) ?_
  have hk_:k<P1 f t:=(by have h_:=hyb_;unfold P1 yLo yHi at *; omega)
  refine C7P rfl rfl rfl rfl (T.yield (A:=[blk b10 23 [J ((E3 t.Y t.Half f.Across).Lo),J (min (E3 t.Y t.Half f.Across).Hi f.Height)],blk b9 23 [J ((E3 t.X t.Half f.Along).Lo),J ((E3 t.X t.Half f.Along).Hi)]]) rfl rfl rfl (hy k _ ss _ hk_ (Mem.le_trans hle14 hmm) (C1T (by unfold yLo;omega) (by unfold A2a;rfl) (by unfold A2a;rfl) _) hI)) (fun _ _ h_=>h_.1) (fun _ _ h_=>h_.1) (by decide) (fun m2_ H2_ hT_=>?_) (fun m2_ H2_ hT_=>?_)
  ·obtain⟨hle2_,s2_,rfl,hI2_⟩:=hT_
   refine U' 1 r'<|V' 11 r' ?_
   refine nx ((k+1,y+1,m2_,s2_)) ?_ ?_
   ·exact⟨Mem.le_trans hmm hle2_,hI2_,by omega,by omega⟩
   (dsimp only;omega)
  obtain⟨hle2_,s2_,rfl,hI2_⟩:=hT_
  refine U' 1 r'<|V' 7 r' ?_
  refine F1 rfl (fun w' hw'=>B8 (hw'.weaken (.cons _ (.cons _ (.refl _)))) ?_)
  exact⟨s2_,rfl,.inr ⟨k+1,by omega,hI2_⟩⟩
 refine v' 7 r' ?_
 refine D9 rfl (fun w' hw'=>B8 (hw'.weaken (.cons _ (.cons _ (.refl _)))) ?_)
 obtain rfl:k=P1 f t:=(by unfold P1 yLo yHi;omega)
 exact⟨ss,rfl,.inl hI⟩
theorem C6A(m:Mem){f:Paper}{t:Point}(hf:I6 f)(ht:N6 t):Pure prog 75 #[.agg [J f.Pitch,J f.Height,J f.Radius,J f.Low,J f.High,J f.Columns,J f.Along.Lo,J f.Along.Hi,J f.Across.Lo,J f.Across.Hi].toArray,.agg [J t.X,J t.Y,J t.Half].toArray] m (fun m' v=>∃lb,v= .func (.func 143) #[] lb.toArray∧A1i prog 143 lb m' false (P1 f t) (B2p f t)):=by
 exact H7 func75 r' ntmps75 fun wld=>q' 2 r'<|o' r' r' fun b1=>o' r' r' fun b2=>v' 4 r'<|fz (x:=f) 1 r' r' r' fun m3 hle4 hp5=>fz (x:=t) 0 r' r' r' fun m6 hle7 hp8=>have hp5:=hp5.mono hle7;q' 1 r'<|y' (X.makeFunc (by intro x hx;simp at hx;rcases hx with rfl|rfl;all_goals exact⟨_,rfl⟩) rfl)<|v' 4 r'<|A0 r' r'<|C5<|⟨_,rfl,C3J _ hp5 hp8 hf ht⟩
end Go.Proofs.T10
namespace Go.Proofs.T10
open Tryz
set_option maxRecDepth 20000
open Go Go.Kx
theorem C7a(m:Mem){V v:Value}{e sz n off:Nat}{xs:List Value}{L M:List Span}{vl:Value}(hxv:xs[off]?=some v)(hL:RisP L)(hM:Sl m vl M)(hMp:RisP M):Mut prog 78 #[.pointer (some (rp V off)),vl] m [row V e sz n xs,A5 v 23 L] (fun _ Es u=>u= .tuple #[]∧∃v',Es=[row V e sz n (xs.set off v'),A5 v' 23 (Z8 (L++M))]∧v'.oneCell'=true):=by
 have hoff:off<xs.length:=(List.getElem?_eq_some_iff.1 hxv).1
 have hll_:=hL.len
 have hml_:=hMp.len
 have hv_:∀s∈L++M,s.Lo≤s.Hi:=fun s hs=>(List.mem_append.1 hs).elim (hL.valid s) (hMp.valid s)
 refine G3 func78 r' ntmps78 fun wld=>q' 4 r'<|f' r' t'<|y' (M3 (k:=0) isAgg28 rfl rfl hxv)<|v' 1 r' ?_
 refine F7 (k:=1) rfl (fun ho2=>?_)
 refine G2 (B8j (α:=RawV) (vals:=[v,vl]) (L:=[RawV.mk v ho2,RawV.mk vl hM.one]) C2t rfl (C3b ho2 hM.one) (by intro v hv;simp at hv;rcases hv with rfl|rfl <;> first|(simp[F4 ho2,Flat.n];done)|(simp[F4 hM.one,Flat.n];done)) rfl rfl rfl) (by decide) (fun v1=>?_)
 refine C2 (B4z (R:=fun Es_ u_=>Es_=[A5 u_ 23 (A3K [L,M] 2)]∧u_.oneCell'=true) call128 rfl (fun _ w_ hw_=>B2a _ (Ls:=[L,M]) (hw_.rowSlA (k:=0) rfl (C3T (hw_.rowFSl (k:=2) rfl (by unfold C8;omega)) (hM.mono hw_.leAll)) (by simp[C8])) (by simp) (B5c (by omega) (by omega)))) (by decide) (fun m3 Es4 v5 hle6 hR_=>?_)
 obtain⟨rfl,ho7⟩:=hR_
 refine have hM:=hM.mono hle6;v' 2 r' ?_
 have he8:(A3K [L,M] 2)=(L++M):=B2W L M
 rw[he8]
 refine L9<|q' 3 r' ?_
 refine C2 (C3 (A:=[A5 (v1) 28 ([RawV.mk v ho2,RawV.mk vl hM.one]),row (V) e sz (n) (xs),A5 (v) 23 (L)]) call148 rfl (.refl _) (B5O _ (L:=L++M) (by rw[List.length_append];omega) (C4K (B0Y hL.bd hMp.bd)) C0q)) (by decide) (fun m9 Es_ u_ hle10 hR_=>?_)
 obtain⟨rfl,R11,rfl,hR12⟩:=hR_
 refine have hM:=hM.mono hle10;v' 1 r' ?_
 have hRl_:R11.length=L.length+M.length:=(by rw[hR12.1.length_eq,List.length_append])
 have hRb_:spB R11:=B3P (B0Y hL.bd hMp.bd) hR12.1
 refine L9<|q' 4 r'<|f' r' t'<|I2 (A2e (k:=2) sizeOf28 rfl rfl rfl rfl hoff)<|v' 1 r'<|G7 Span 23 ?_
 have he13:(([]:List Span))=(D2 (R11.take 0)):=rfl
 rw[he13]
 refine L9<|q' 3 r'<|y' (S5 (k:=1) runUnderlying28 rfl rfl)<|v' 4 r' ?_
 refine O6 (fun(k:Nat) (vq:Value)=>R11.length-k) (fun k vq=>[A5 (vq) 23 (D2 (R11.take k)),A5 (v5) 23 (R11),A5 (v1) 28 ([RawV.mk v ho2,RawV.mk vl hM.one]),row (V) e sz (n) (xs.set off vq),A5 (v) 23 (L)]) (fun k vq=>[(0,.pointer (some (rp V off))),(20,v5),(21,J R11.length),(22,J k)]) (fun k vq=>k≤R11.length) 0 (Value.slice none 0 0) ?_ ?_
 ·exact Nat.zero_le _
 rintro k vq hF14
 try dsimp only at hF14
 have hk:=hF14
 have hmb_:=A9k (l:=R11.take k) (fun s hs=>hRb_ s (List.mem_of_mem_take hs))
 have hml2_:=hmb_.2
 rw[List.length_take]at hml2_
 have hml3_:(D2 (R11.take k)).length≤k:=(by omega)
 have hlast_:0<(D2 (R11.take k)).length→0≤(gt (D2 (R11.take k)) ((D2 (R11.take k)).length-1)).Hi∧(gt (D2 (R11.take k)) ((D2 (R11.take k)).length-1)).Hi≤12000:=fun h_=>(B2P hmb_.1 (by omega)).2
 refine q' 2 r'<|c' (X.lss r' r') (fun h15=>?_) fun h15=>?_
 ·refine v' 10 r'<|y' (B0 1 k)<|y' (A.fs 1 (k) 0 [J (((gt R11 k)).Lo),J (((gt R11 k)).Hi)] r' r' r' r')<|n' zeroValue23 r' fun b16=>w' 0 r' r' r'<|v' 6 r'<|f' r' t'<|y' (M3 (k:=4) isAgg28 rfl rfl (A5F hoff))<|y' (S5 (k:=1) runUnderlying28 rfl rfl)<|v' 5 r'<|B4 17 [] []<|U' 1 r'<|C' r' r' (X.gtr r' r') (fun h17=>?_) fun h17=>?_
  ·refine U' 1 r'<|Y' r' r' (A.f r')<|Y' r' r' (A.b 0 r' r' r')<|U' 2 r'<|Y' r' r' (A.f r')<|Y' r' r' (M3 (k:=4) isAgg28 rfl rfl (A5F hoff))<|U' 2 r'<|Y' r' r' (B0 1 ((D2 (R11.take k)).length-1))<|Y' r' r' (A.f r')<|Y' r' r' (Q0 (k:=1) (i:=(D2 (R11.take k)).length-1) (off:=1) (u:=J (((gt (D2 (R11.take k)) ((D2 (R11.take k)).length-1))).Hi)) isAgg3 rfl rfl (by first|omega|(simp;omega)|simp) rfl)<|U' 1 r'<|C' r' r' (X.leq r' r') (fun h18=>?_) fun h18=>?_
   ·refine U' 1 r'<|V' 3 r'<|B4 21 [20] [20]<|U' 2 r'<|Y' r' r' (A.f r')<|Y' r' r' (M3 (k:=4) isAgg28 rfl rfl (A5F hoff))<|U' 4 r'<|Y' r' r' (A.f r')<|Y' r' r' (M3 (k:=4) isAgg28 rfl rfl (A5F hoff))<|U' 2 r'<|Y' r' r' (B0 1 ((D2 (R11.take k)).length-1))<|Y' r' r' (A.f r')<|Y' r' r' (Q0 (k:=1) (i:=(D2 (R11.take k)).length-1) (off:=1) (u:=J (((gt (D2 (R11.take k)) ((D2 (R11.take k)).length-1))).Hi)) isAgg3 rfl rfl (by first|omega|(simp;omega)|simp) rfl)<|Y' r' r' (A.f r')<|Y' r' r' (A.b 0 r' r' r')<|Y' r' r' (A7b rfl rfl)<|Y' r' r' (B0 1 ((D2 (R11.take k)).length-1))<|Y' r' r' (A.f r')<|B3 r' r' r' r' (C6 (k:=1) (i:=(D2 (R11.take k)).length-1) (off:=1) (us:=[J (max (((gt (D2 (R11.take k)) ((D2 (R11.take k)).length-1))).Hi) (((gt R11 k)).Hi))]) ((Span.mk (((gt (D2 (R11.take k)) ((D2 (R11.take k)).length-1))).Lo) (max (((gt (D2 (R11.take k)) ((D2 (R11.take k)).length-1))).Hi) (((gt R11 k)).Hi)))) sizeOf3 rfl rfl rfl rfl (Nat.zero_lt_succ _) rfl (by first|omega|(simp;omega)|simp) rfl rfl (A4 rfl C0))<|V' 10 r' ?_
    have he19:((D2 (R11.take k)).set ((D2 (R11.take k)).length-1) ((Span.mk (((gt (D2 (R11.take k)) ((D2 (R11.take k)).length-1))).Lo) (max (((gt (D2 (R11.take k)) ((D2 (R11.take k)).length-1))).Hi) (((gt R11 k)).Hi)))))=(D2 (R11.take (k+1))):=((A2p (by omega)).trans (A8X ⟨by omega,by omega⟩)).symm
    rw[he19]
    exact J7 (k+1) vq<|by omega
   refine U' 1 r'<|V' 4 r'<|B4 11 [6,7,10] [7,10]<|U' 3 r'<|Y' r' r' (A.f r')<|Y' r' r' (M3 (k:=4) isAgg28 rfl rfl (A5F hoff))<|Y' r' r' (K4 0 r' r' r')<|P4 r' r' r' (E6 Q7 rfl rfl rfl (by decide)) (by decide) fun b20=>?_
   refine V0 rfl rfl rfl rfl (E2 (k:=1) (a:=gt R11 k) Q7 rfl rfl rfl rfl (by first|omega|(simp;done)|(simp;omega)) (by decide)) (by decide) (fun v21=>?_)
   refine U' 1 r'<|Y' r' r' (A.f r')<|B3 r' r' r' r' (W8 (k:=1) rfl trivial (D0 rfl rfl rfl) fun ho22=>B2h (k:=4) sizeOf28 rfl rfl rfl ho22 hoff)<|V' 7 r' ?_
   have he23:((D2 (R11.take k))++[gt R11 k])=(D2 (R11.take (k+1))):=((A2p (by omega)).trans (A4n (fun h_=>by have h1_:=h_.1;have h2_:=h_.2;omega))).symm
   rw[he23]
   exact J7 (k+1) v21<|by omega
  refine U' 15 r'<|V' 4 r'<|B4 11 [6,7,10] [7,10]<|U' 3 r'<|Y' r' r' (A.f r')<|Y' r' r' (M3 (k:=4) isAgg28 rfl rfl (A5F hoff))<|Y' r' r' (K4 0 r' r' r')<|P4 r' r' r' (E6 Q7 rfl rfl rfl (by decide)) (by decide) fun b24=>?_
  refine V0 rfl rfl rfl rfl (E2 (k:=1) (a:=gt R11 k) Q7 rfl rfl rfl rfl (by first|omega|(simp;done)|(simp;omega)) (by decide)) (by decide) (fun v25=>?_)
  refine U' 1 r'<|Y' r' r' (A.f r')<|B3 r' r' r' r' (W8 (k:=1) rfl trivial (D0 rfl rfl rfl) fun ho26=>B2h (k:=4) sizeOf28 rfl rfl rfl ho26 hoff)<|V' 7 r' ?_
  have he27:((D2 (R11.take k))++[gt R11 k])=(D2 (R11.take (k+1))):=((A2p (by omega)).trans (A4n (fun h_=>by have h1_:=h_.1;have h2_:=h_.2;omega))).symm
  rw[he27]
  exact J7 (k+1) v25<|by omega
 refine v' 8 r' ?_
 have hkR_:k=R11.length:=(by omega)
 have he28:(D2 (R11.take k))=(Z8 (L++M)):=(by rw[hkR_,List.take_length];exact B0g hR12.1 hR12.2 hv_)
 rw[he28]
 refine WK.p [1,1,2,1] ?_
 refine B0S (k:=4) rfl (fun hoq_=>?_)
 refine D9 rfl (fun w' hw'=>B8 (hw'.weaken (.cons _ (.cons _ (.cons _ (.refl _))))) ?_)
 exact⟨rfl,_,rfl,hoq_⟩
end Go.Proofs.T10
