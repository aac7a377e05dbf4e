import Derived.Test.YtooomcigmleneaaGreatT10W18
set_option linter.all false
set_option maxHeartbeats 1000000
namespace Go.Proofs.T10
open Tryz Go Go.Kx
set_option maxRecDepth 20000
variable{G:Prop}{caps:List Value}{d:Drum}{fn:Nat}{p:Nat→Prop}{pd:Addr}{va vg vl:Value}
theorem BC(m:Mem)(n:Int)(lo:Int)(hi:Int):Exact prog 137 #[J n,J lo,J hi] m (.bool (decide (lo≤n∧n≤hi))):=by
 refine D4 func137 O ntmps137 fun a=>q' 9 O<|c' (X.geq O O) (fun b=>?_) fun b=>?_
 ·refine U 12 O<|A0 O O<|A8 ?_
  first|exact D5 (by omega)|exact B2 (by omega)|exact D8 (by omega)
 refine U 9 O<|A0 O O<|A8 ?_
 first|exact D5 (by omega)|exact B2 (by omega)|exact D8 (by omega)
theorem Nk(h:G:=by first|exact D5 (by unfold X8;omega)|exact B2 (by unfold X8;omega)|exact D8 (by unfold X8;omega)):G:=h
theorem Oc(m:Mem)(cs:List Value)(s:Span)(hs:Enc.rd m cs s)(lo:Int)(hi:Int):Exact prog 242 #[.agg cs.toArray,J lo,J hi] m (.bool (decide (X8 s lo hi))):=by
 obtain rfl:=hs
 refine D4 func242 O ntmps242 fun a=>q' 2 O<|o' O O fun c=>U 5 O<|f' O t'<|b' 0 O O O<|U 1 O<|f' O t'<|b' 0 O O O<|c' (X.call call137 rfl (BC _ _ _ _)) (fun b=>?_) fun b=>?_
 ·exact U 2 O<|f' O t'<|U 1 O<|b' 0 O O O<|U 9 O<|A0 O O<|A8<|Nk
 exact U 10 O<|A0 O O<|A8<|Nk
theorem B2F(m:Mem)(cs:List Value)(s:Span)(hs:Enc.rd m cs s):Exact prog 241 #[.agg cs.toArray] m (.bool (decide (¬(X8 s 1 40)))):=by
 obtain rfl:=hs
 refine D4 func241 O ntmps241 fun a=>q' 2 O<|o' O O fun b=>U 5 O<|a' 0 O O<|y' (X.call call242 rfl (Oc _ _ s rfl _ _))<|y' (Cu rfl)<|U 4 O<|A0 O O<|A8 ?_
 first|rfl|(simp[*];done)
theorem MW(h:G:=by first|exact D5 (by omega)|exact B2 (by omega)|exact D8 (by omega)|exact D5 (fun h=>by have:=h.1;omega)|exact B2 (fun h=>by have:=h.1;omega)|exact D8 ⟨fun h h2=>h h2.2,fun h h2=>h ⟨by omega,h2⟩⟩|exact D8 ⟨fun h=>⟨by omega,h⟩,fun h=>h.2⟩):G:=h
theorem B1l(m:Mem){cs:List Value}{s:Stp}(hs:Enc.rd m cs s)(hpd:At m pd d):Exact prog 243 #[.agg cs.toArray,.pointer (some pd)] m (.bool (decide (¬((0≤s.Column∧s.Column≤(d.Rates.length:Int)-1)∧X8 s.Ticks 0 400)))):=by
 obtain rfl:=hs
 refine D4 func243 O ntmps243 fun b=>q' 2 O<|o' O O fun g=>U 5 O<|f' O t'<|b' 0 O O O<|f' O t'<|s' (Av hpd) O fun l a=>have f:=a.le;l' a O<|U 1 O<|c' (X.call call137 rfl (BC _ _ _ _)) (fun c=>?_) fun c=>?_
 ·exact U 3 O<|f' O t'<|U 1 O<|y' (J5 (k:=0) (vs:=[J s.Ticks.Lo,J s.Ticks.Hi]) isAgg23 sizeOf23 rfl rfl rfl rfl)<|U 1 O<|y' (X.call call242 rfl (Oc _ _ s.Ticks rfl _ _))<|U 1 O<|y' (Cu rfl)<|U 5 O<|A0 O O<|A8<|MW
 exact U 11 O<|A0 O O<|A8<|MW
theorem KC(h:G:=by first|exact D5 (by omega)|exact B2 (by omega)|exact D8 (by omega)|exact D5 (fun h=>by have:=h.1;omega)|exact B2 (fun h=>by have:=h.1;omega)|exact D8 ⟨fun h h2=>h h2.2,fun h h2=>h ⟨by omega,h2⟩⟩|exact D8 ⟨fun h=>⟨by omega,h⟩,fun h=>h.2⟩):G:=h
theorem A9v(m:Mem)(cd:List Value)(d:Drum)(hd:Enc.rd m cd d)(cx:List Value)(x:Mark)(hx:Enc.rd m cx x):Exact prog 247 #[.agg cd.toArray,.agg cx.toArray] m (.bool (decide ((0≤x.Column∧x.Column≤(d.Rates.length:Int))∧X8 x.Ticks 0 400))):=by
 obtain⟨p,q,rfl,a,b⟩:=hd
 have g:=a.le
 have l:=b.le
 obtain rfl:=hx
 refine D4 func247 O ntmps247 fun c=>q' 2 O<|o' O O fun n=>o' O O fun o=>U 5 O<|f' O t'<|b' 0 O O O<|f' O t'<|b' 1 O O O<|l' a O<|c' (X.call call137 rfl (BC _ _ _ _)) (fun f=>?_) fun f=>?_
 ·exact U 2 O<|f' O t'<|U 1 O<|y' (J5 (k:=0) (vs:=[J x.Ticks.Lo,J x.Ticks.Hi]) isAgg23 sizeOf23 rfl rfl rfl rfl)<|U 1 O<|y' (X.call call242 rfl (Oc _ _ x.Ticks rfl _ _))<|U 5 O<|A0 O O<|A8<|KC
 exact U 9 O<|A0 O O<|A8<|KC
theorem B2G(m:Mem){cx:List Value}{x:Mark}(hx:Enc.rd m cx x)(hpd:At m pd d):Exact prog 246 #[.agg cx.toArray,.pointer (some pd)] m (.bool (decide (¬((0≤x.Column∧x.Column≤(d.Rates.length:Int))∧X8 x.Ticks 0 400)))):=by
 obtain rfl:=hx
 refine D4 func246 O ntmps246 fun f=>q' 2 O<|o' O O fun l=>U 5 O<|g' hpd O fun n c=>?_
 obtain⟨o,p,rfl,a,b⟩:=c
 refine have g:=a.le;have k:=b.le;a' 0 O O<|y' (X.call call247 rfl (A9v _ _ d ⟨_,_,rfl,a,b⟩ _ x rfl))<|y' (Cu rfl)<|U 4 O<|A0 O O<|A8 ?_
 first|rfl|(simp[*];done)
theorem B3F(m:Mem)(cs:List Value)(s:Span)(hs:Enc.rd m cs s):Exact prog 219 #[.agg cs.toArray] m (.bool (decide (s.Hi<s.Lo))):=by
 obtain rfl:=hs
 refine D4 func219 O ntmps219 fun a=>q' 2 O<|o' O O fun b=>U 5 O<|f' O t'<|b' 0 O O O<|f' O t'<|b' 0 O O O<|U 5 O<|A0 O O<|A8 ?_
 first|rfl|(simp[*];done)
theorem B0G(m:Mem)(n:Int):Exact prog 138 #[J n] m (.bool (decide (¬(0≤n∧n≤400)))):=by
 refine D4 func138 O ntmps138 fun a=>q' 8 O<|y' (X.call call137 rfl (BC _ _ _ _))<|y' (Cu rfl)<|U 4 O<|A0 O O<|A8 ?_
 first|exact D5 (by omega)|exact B2 (by omega)|exact D8 (by omega)
theorem B4i(m:Mem)(n:Int)(hpd:At m pd d):Exact prog 136 #[J n,.pointer (some pd)] m (.bool (decide (¬(0≤n∧n≤(d.Rates.length:Int))))):=by
 refine D4 func136 O ntmps136 fun b=>q' 8 O<|f' O t'<|s' (Av hpd) O fun f a=>have c:=a.le;l' a O<|y' (X.call call137 rfl (BC _ _ _ _))<|y' (Cu rfl)<|U 4 O<|A0 O O<|A8 ?_
 first|exact D5 (by omega)|exact B2 (by omega)|exact D8 (by omega)
theorem PF(h:G:=by first|exact B0 (W8 (by omega) hall ‹_›).symm|exact B0 (W3 (fun j hj=>hall j (by omega))).symm):G:=h
theorem B4n(m:Mem){l:List Span}(hl:Sl m vl l)[DecidablePred p](hE:Enters prog fn)(hcl:(∀i,i<l.length→Exact prog fn (#[.agg (Flat.enc (gt l i)).toArray]++caps.toArray) m (.bool (decide (p i))))):Exact prog 248 #[vl,.func (.func fn) #[] caps.toArray] m (J (U3 p l.length)):=by
 refine have n:=hl.le;D4 func248 O ntmps248 fun d=>q' 9 O<|l' hl O<|U 4 O ?_
 refine J4 (fun(k:Nat)=>l.length-k) (fun k=>[]) (fun k=>[(0,vl),(1,.func (.func fn) #[] caps.toArray),(7,J l.length),(8,J k)]) (fun k=>k≤l.length∧(∀j,j<k→¬p j)) 0 ?_ ?_
 ·exact⟨EF _,fun j a=>absurd a (R' _)⟩
 rintro k ⟨r,hall⟩
 refine q' 2 O<|c' (X.lss O O) (fun f=>?_) fun f=>?_
 ·refine U 19 O<|x' k hl O O fun o b=>g' b O fun q c=>?_
  obtain rfl:=c
  refine c' (E1 hE rfl rfl (hcl k (by omega))) (fun g=>?_) fun g=>?_
  ·exact U 15 O<|A0 O O<|A8<|PF
  exact U 11 O<|I6 (k+1)<|⟨by omega,fun j a=>by rcases Sc.1 a with h|h;exact hall j h;subst h;assumption⟩
 exact U 15 O<|A0 O O<|A8<|PF
theorem A2b(m:Mem){l:List Span}(hl:Sl m vl l)[DecidablePred p](hE:Enters prog fn)(hcl:(∀i,i<l.length→Exact prog fn (#[.agg (Flat.enc (gt l i)).toArray]++caps.toArray) m (.bool (decide (p i))))):Exact prog 178 #[vl,.func (.func fn) #[] caps.toArray] m (.bool (decide (¬∀i,i<l.length→¬p i))):=by
 exact have b:=hl.le;D4 func178 O ntmps178 fun a=>q' 9 O<|y' (X.call call248 rfl (B4n _ hl hE hcl))<|U 5 O<|A0 O O<|A8<|D8 (BS p l.length)
theorem Pv(h:G:=by first|exact B0 (W8 (by omega) hall ‹_›).symm|exact B0 (W3 (fun j hj=>hall j (by omega))).symm):G:=h
theorem B4W(m:Mem){l:List Stp}(hl:Sl m vl l)[DecidablePred p](hE:Enters prog fn)(hcl:(∀i,i<l.length→Exact prog fn (#[.agg (Flat.enc (gt l i)).toArray]++caps.toArray) m (.bool (decide (p i))))):Exact prog 295 #[vl,.func (.func fn) #[] caps.toArray] m (J (U3 p l.length)):=by
 refine have n:=hl.le;D4 func295 O ntmps295 fun d=>q' 9 O<|l' hl O<|U 4 O ?_
 refine J4 (fun(k:Nat)=>l.length-k) (fun k=>[]) (fun k=>[(0,vl),(1,.func (.func fn) #[] caps.toArray),(7,J l.length),(8,J k)]) (fun k=>k≤l.length∧(∀j,j<k→¬p j)) 0 ?_ ?_
 ·exact⟨EF _,fun j a=>absurd a (R' _)⟩
 rintro k ⟨r,hall⟩
 refine q' 2 O<|c' (X.lss O O) (fun f=>?_) fun f=>?_
 ·refine U 19 O<|x' k hl O O fun o b=>g' b O fun q c=>?_
  obtain rfl:=c
  refine c' (E1 hE rfl rfl (hcl k (by omega))) (fun g=>?_) fun g=>?_
  ·exact U 15 O<|A0 O O<|A8<|Pv
  exact U 11 O<|I6 (k+1)<|⟨by omega,fun j a=>by rcases Sc.1 a with h|h;exact hall j h;subst h;assumption⟩
 exact U 15 O<|A0 O O<|A8<|Pv
theorem B1i(m:Mem){l:List Stp}(hl:Sl m vl l)[DecidablePred p](hE:Enters prog fn)(hcl:(∀i,i<l.length→Exact prog fn (#[.agg (Flat.enc (gt l i)).toArray]++caps.toArray) m (.bool (decide (p i))))):Exact prog 244 #[vl,.func (.func fn) #[] caps.toArray] m (.bool (decide (¬∀i,i<l.length→¬p i))):=by
 exact have b:=hl.le;D4 func244 O ntmps244 fun a=>q' 9 O<|y' (X.call call295 rfl (B4W _ hl hE hcl))<|U 5 O<|A0 O O<|A8<|D8 (BS p l.length)
theorem Pq(h:G:=by first|exact B0 (W8 (by omega) hall ‹_›).symm|exact B0 (W3 (fun j hj=>hall j (by omega))).symm):G:=h
theorem A4x(m:Mem){l:List Mark}(hl:Sl m vl l)[DecidablePred p](hE:Enters prog fn)(hcl:(∀i,i<l.length→Exact prog fn (#[.agg (Flat.enc (gt l i)).toArray]++caps.toArray) m (.bool (decide (p i))))):Exact prog 245 #[vl,.func (.func fn) #[] caps.toArray] m (J (U3 p l.length)):=by
 refine have n:=hl.le;D4 func245 O ntmps245 fun d=>q' 9 O<|l' hl O<|U 4 O ?_
 refine J4 (fun(k:Nat)=>l.length-k) (fun k=>[]) (fun k=>[(0,vl),(1,.func (.func fn) #[] caps.toArray),(7,J l.length),(8,J k)]) (fun k=>k≤l.length∧(∀j,j<k→¬p j)) 0 ?_ ?_
 ·exact⟨EF _,fun j a=>absurd a (R' _)⟩
 rintro k ⟨r,hall⟩
 refine q' 2 O<|c' (X.lss O O) (fun f=>?_) fun f=>?_
 ·refine U 19 O<|x' k hl O O fun o b=>g' b O fun q c=>?_
  obtain rfl:=c
  refine c' (E1 hE rfl rfl (hcl k (by omega))) (fun g=>?_) fun g=>?_
  ·exact U 15 O<|A0 O O<|A8<|Pq
  exact U 11 O<|I6 (k+1)<|⟨by omega,fun j a=>by rcases Sc.1 a with h|h;exact hall j h;subst h;assumption⟩
 exact U 15 O<|A0 O O<|A8<|Pq
theorem Qd(h:G:=by first|exact B0 (W8 (by omega) hall ‹_›).symm|exact B0 (W3 (fun j hj=>hall j (by omega))).symm):G:=h
theorem B5d(m:Mem){l:List Int}(hl:Sl m vl l)[DecidablePred p](hE:Enters prog fn)(hcl:(∀i,i<l.length→Exact prog fn (#[J (gt l i)]++caps.toArray) m (.bool (decide (p i))))):Exact prog 176 #[vl,.func (.func fn) #[] caps.toArray] m (J (U3 p l.length)):=by
 refine have g:=hl.le;D4 func176 O ntmps176 fun c=>q' 9 O<|l' hl O<|U 4 O ?_
 refine J4 (fun(k:Nat)=>l.length-k) (fun k=>[]) (fun k=>[(0,vl),(1,.func (.func fn) #[] caps.toArray),(7,J l.length),(8,J k)]) (fun k=>k≤l.length∧(∀j,j<k→¬p j)) 0 ?_ ?_
 ·exact⟨EF _,fun j a=>absurd a (R' _)⟩
 rintro k ⟨o,hall⟩
 refine q' 2 O<|c' (X.lss O O) (fun d=>?_) fun d=>?_
 ·refine U 19 O<|x' k hl O O fun n b=>i' b O<|c' (E1 hE rfl rfl (hcl k (by omega))) (fun f=>?_) fun f=>?_
  ·exact U 15 O<|A0 O O<|A8<|Qd
  exact U 11 O<|I6 (k+1)<|⟨by omega,fun j a=>by rcases Sc.1 a with h|h;exact hall j h;subst h;assumption⟩
 exact U 15 O<|A0 O O<|A8<|Qd
theorem A4v(m:Mem){l:List Int}(hl:Sl m vl l)[DecidablePred p](hE:Enters prog fn)(hcl:(∀i,i<l.length→Exact prog fn (#[J (gt l i)]++caps.toArray) m (.bool (decide (p i))))):Exact prog 97 #[vl,.func (.func fn) #[] caps.toArray] m (.bool (decide (¬∀i,i<l.length→¬p i))):=by
 exact have b:=hl.le;D4 func97 O ntmps97 fun a=>q' 9 O<|y' (X.call call176 rfl (B5d _ hl hE hcl))<|U 5 O<|A0 O O<|A8<|D8 (BS p l.length)
theorem Co(h:G:=by first|exact B0 (A4t (fun h=>by have h1:=h.1;have h2:=h.2.1;have h3:=h.2.2;first|omega|contradiction)).symm|exact B0 (KY ⟨by omega,Sj (fun h=>by contradiction),Sj (fun h=>by contradiction)⟩).symm):G:=h
theorem Im(m:Mem)(cd:List Value)(d:Drum)(hd:Enc.rd m cd d):Exact prog 172 #[.agg cd.toArray] m (J (Ar d)):=by
 obtain⟨K,L,rfl,k,l⟩:=hd
 refine have G:=k.le;have H:=l.le;D4 func172 O ntmps172 fun A=>q' 2 O<|o' O O fun B=>U 9 O<|fz (x:=d) 0 O O ⟨_,_,rfl,k,l⟩ fun I t a=>q' 1 O<|y' (X.makeFunc (by intro x z;simp at z;subst z;all_goals exact⟨_,rfl⟩) rfl)<|U 6 O<|f' O t'<|s' (Av a) O fun C b=>have u:=b.le;l' b O<|c' (X.call call137 rfl (BC _ _ _ _)) (fun n=>?_) fun n=>?_
 ·refine U 3 O<|f' O t'<|U 1 O<|s' (EA a) O fun D c=>have v:=c.le;U 1 O<|l' c O<|U 1 O<|c' (X.gtr O O) (fun o=>?_) fun o=>?_
  ·exact U 23 O<|A0 O O<|A8<|Co
  refine U 3 O<|f' O t'<|U 1 O<|s' (Av a) O fun E f=>have w:=f.le;U 3 O<|c' (X.call call178 rfl (A2b (p:=fun i=>¬X8 (gt d.Rates i) 1 40) _ f (caps:=[]) call241 (fun i _=>B2F _ _ (gt d.Rates i) rfl))) (fun q=>?_) fun q=>?_
  ·exact U 17 O<|A0 O O<|A8<|Co
  refine U 3 O<|f' O t'<|U 1 O<|s' (EA a) O fun F g=>have y:=g.le;U 3 O<|c' (X.call call244 rfl (B1i (p:=fun i=>¬((0≤(gt d.Stops i).Column∧(gt d.Stops i).Column≤(d.Rates.length:Int)-1)∧X8 (gt d.Stops i).Ticks 0 400)) _ g (caps:=[Pt B 0]) call243 (fun i _=>B1l _ (s:=gt d.Stops i) rfl a))) (fun r=>?_) fun r=>?_
  ·exact U 11 O<|A0 O O<|A8<|Co
  exact U 12 O<|A0 O O<|A8<|Co
 exact U 29 O<|A0 O O<|A8<|Co
theorem Ek(h:G:=by first|exact G4 (B0 (by rw[KB (by omega)])) (B0 (by rw[KB (by omega)]))|exact G4 (B0 (by rw[MR (by omega) (by omega)])) (B0 (by rw[MR (by omega) (by omega)]))|exact G4 (B0 (by rw[JA (by omega) (by omega) (QW (by omega))])) (B0 (by rw[JA (by omega) (by omega) (QW (by omega))]))|exact G4 (B0 (by rw[Ny (by omega) (by omega) (by omega)])) (B0 (by rw[Ny (by omega) (by omega) (by omega)]))):G:=h
theorem A0k(m:Mem)(cd:List Value)(d:Drum)(hd:Enc.rd m cd d)(vm_:Value)(m_:List Mark)(hm_:Sl m vm_ m_):Exact prog 173 #[.agg cd.toArray,vm_] m (.tuple #[J ((U0 d m_).1),J ((U0 d m_).2)]):=by
 obtain⟨v,w,rfl,b,c⟩:=hd
 refine have s:=b.le;have t:=c.le;have u:=hm_.le;D4 func173 O ntmps173 fun l=>q' 2 O<|o' O O fun n=>U 8 O<|a' 0 O O<|y' (X.call call172 rfl (Im _ _ d ⟨_,_,rfl,b,c⟩))<|e' (X.neq O O) (fun o=>?_) fun o=>?_
 ·exact U 13 O<|B7 O O O<|A8<|Ek
 refine U 7 O<|l' hm_ O<|c' (X.gtr O O) (fun q=>?_) fun q=>?_
 ·exact U 13 O<|B7 O O O<|A8<|Ek
 refine U 9 O<|fz (x:=d) 0 O O ⟨_,_,rfl,b,c⟩ fun r a f=>have hm_:=hm_.mono a;q' 2 O<|y' (X.makeFunc (by intro x k;simp at k;subst k;all_goals exact⟨_,rfl⟩) rfl)<|y' (X.call call245 rfl (A4x (p:=CK d m_) _ hm_ (caps:=[Pt n 0]) call246 (fun i _=>B2G _ (x:=gt m_ i) rfl f)))<|U 6 O<|c' (X.geq O O) (fun g=>?_) fun g=>?_
 ·exact U 12 O<|B7 O O O<|A8<|Ek
 exact U 12 O<|B7 O O O<|A8<|Ek
theorem A4c(m:Mem)(cd:List Value)(d:Drum)(hd:Enc.rd m cd d)(vm_:Value)(m_:List Mark)(hm_:Sl m vm_ m_):Exact prog 135 #[.agg cd.toArray,vm_] m (J (Bx d m_)):=by
 obtain⟨o,p,rfl,a,b⟩:=hd
 refine have g:=a.le;have k:=b.le;have l:=hm_.le;D4 func135 O ntmps135 fun c=>q' 2 O<|o' O O fun n=>U 5 O<|a' 0 O O<|U 1 O<|y' (X.call call173 rfl (A0k _ _ d ⟨_,_,rfl,a,b⟩ _ _ hm_))<|U 11 O<|c' (X.eql O O) (fun f=>?_) fun f=>?_
 ·refine U 10 O<|A0 O O<|A8 ?_
  first|exact B0 (by unfold Bx;rw[D' ‹_›])|exact B0 (by unfold Bx;rw[A' ‹_›])
 refine U 12 O<|A0 O O<|A8 ?_
 first|exact B0 (by unfold Bx;rw[D' ‹_›])|exact B0 (by unfold Bx;rw[A' ‹_›])
theorem FO(m:Mem){v:Value}{L:List Span}(hL:Sl m v L)(hn:L.length≤1000):Mut prog 207 #[v] m [] (fun _ Es u=>Es=[A5 u 23 L]∧u.oneCell'=true):=by
 refine G3 func207 O ntmps207 fun b=>q' 9 O ?_
 refine J6 (AX underlying28 rfl rfl hL) (by decide) (fun c=>?_) (fun c=>?_)
 ·refine U 4 O ?_
  obtain rfl:=hL.nil_of ‹_›
  refine I5 Span 23<|q' 6 O<|A0 O O<|I2 ?_
  first|exact⟨rfl,rfl⟩|exact⟨rfl,a⟩
 refine U 7 O ?_
 refine G2 (FY (α:=Span) K9 rfl) (by decide) (fun d=>?_)
 refine U 1 O ?_
 refine G2 (X5 (α:=Span) (fun _ _ _ h=>h) (k:=0) K9 rfl rfl hL rfl (by first|omega|(simp;omega)) (by first|omega|(simp;omega))) (by decide) (fun f=>?_)
 refine E8 (k:=0) rfl (fun a=>?_)
 refine U 4 O<|A0 O O<|I2 ?_
 first|exact⟨rfl,rfl⟩|exact⟨rfl,a⟩
theorem Gy(h:G:=by first|exact B2 (fun e=>by subst e;omega)|exact B2 (fun e=>by subst e;contradiction)|exact D5 (Dy (by omega) (fun j hj=>hall j (by omega)))):G:=h
theorem A0j(m:Mem)(va:Value)(a:List Span)(ha:Sl m va a)(vb:Value)(b:List Span)(hb:Sl m vb b):Exact prog 220 #[va,vb] m (.bool (decide (a=b))):=by
 refine have la:=ha.le;have lb:=hb.le;D4 func220 O ntmps220 fun o=>q' 9 O<|l' ha O<|U 1 O<|l' hb O<|e' (X.neq O O) (fun p=>?_) fun p=>?_
 ·exact U 10 O<|A0 O O<|A8<|Gy
 refine U 9 O<|l' ha O<|U 4 O ?_
 refine J4 (fun(k:Nat)=>a.length-k) (fun k=>[]) (fun k=>[(0,va),(1,vb),(12,J a.length),(13,J k)]) (fun k=>k≤a.length∧(∀j,j<k→gt a j=gt b j)) 0 ?_ ?_
 ·exact⟨EF _,fun j d=>absurd d (R' _)⟩
 rintro k ⟨v,hall⟩
 refine q' 2 O<|c' (X.lss O O) (fun q=>?_) fun q=>?_
 ·refine U 15 O<|B9 9 [] []<|U' 2 O<|X' k ha O O O O fun s f=>G' f O O O fun t g=>?_
  obtain rfl:=g
  refine U' 2 O<|X' k hb O O O O fun u l=>G' l O O O fun r c=>?_
  obtain rfl:=c
  refine CM rfl rfl (MX (a:=gt a k) (b:=gt b k) A8c (fun w=>Ed 9998 _ _ w) rfl rfl) (by decide) (fun n=>?_) (fun n=>?_)
  ·exact V' 13 O<|A0 O O<|A8<|Gy
  exact V' 10 O<|I6 (k+1)<|⟨by omega,fun j d=>by rcases Sc.1 d with h|h;exact hall j h;subst h;assumption⟩
 exact U 15 O<|A0 O O<|A8<|Gy
theorem A1r(m:Mem)(a:Int)(b:Int):Exact prog 261 #[J a,J b] m (.tuple #[J (min a b),J (max a b)]):=by
 refine D4 func261 O ntmps261 fun c=>q' 10 O<|y' (Hw rfl rfl)<|U 2 O<|y' (EG rfl rfl)<|U 5 O<|B7 O O O<|A8 ?_
 first|rfl|(simp[*];done)
theorem B3y(m:Mem)(y:Int)(h0:0≤y)(h1:y≤100000):Exact prog 304 #[.int .u64 1,.int .u64 y] m (.tuple #[.int .u64 0,.int .u64 y]):=by
 exact D4 func304 O ntmps304 fun a=>q' 9 O<|y' (QX rfl rfl (by first|omega|(simp;omega)|(simp;done)) (by first|omega|(simp;omega)|(simp;done)))<|U 6 O<|y' (Hc rfl rfl (by first|omega|(simp;omega)|(simp;done)) (by first|omega|(simp;omega)|(simp;done)))<|U 6 O<|y' (QX rfl rfl (by first|omega|(simp;omega)|(simp;done)) (by first|omega|(simp;omega)|(simp;done)))<|U 6 O<|y' (Hc rfl rfl (by first|omega|(simp;omega)|(simp;done)) (by first|omega|(simp;omega)|(simp;done)))<|U 7 O<|y' (Ju rfl rfl (by first|omega|(simp;omega)|(simp;done)) (by first|omega|(simp;omega)|(simp;done)))<|U 7 O<|y' (Ju rfl rfl (by first|omega|(simp;omega)|(simp;done)) (by first|omega|(simp;omega)|(simp;done)))<|U 1 O<|y' (Hc rfl rfl (by first|omega|(simp;omega)|(simp;done)) (by first|omega|(simp;omega)|(simp;done)))<|y' (NB rfl rfl (by first|omega|(simp;omega)|(simp;done)) (by first|omega|(simp;omega)|(simp;done)))<|U 6 O<|y' (QX rfl rfl (by first|omega|(simp;omega)|(simp;done)) (by first|omega|(simp;omega)|(simp;done)))<|U 6 O<|y' (Hc rfl rfl (by first|omega|(simp;omega)|(simp;done)) (by first|omega|(simp;omega)|(simp;done)))<|U 8 O<|y' (Ju rfl rfl (by first|omega|(simp;omega)|(simp;done)) (by first|omega|(simp;omega)|(simp;done)))<|y' (NB rfl rfl (by first|omega|(simp;omega)|(simp;done)) (by first|omega|(simp;omega)|(simp;done)))<|U 7 O<|y' (Ju rfl rfl (by first|omega|(simp;omega)|(simp;done)) (by first|omega|(simp;omega)|(simp;done)))<|U 1 O<|y' (NB rfl rfl (by first|omega|(simp;omega)|(simp;done)) (by first|omega|(simp;omega)|(simp;done)))<|U 1 O<|y' (Hc rfl rfl (by first|omega|(simp;omega)|(simp;done)) (by first|omega|(simp;omega)|(simp;done)))<|y' (NB rfl rfl (by first|omega|(simp;omega)|(simp;done)) (by first|omega|(simp;omega)|(simp;done)))<|U 7 O<|y' (Ju rfl rfl (by first|omega|(simp;omega)|(simp;done)) (by first|omega|(simp;omega)|(simp;done)))<|U 4 O<|B7 O O O<|A8<|G4 (by simp) (by simp)
theorem B4O(m:Mem)(y:Int)(h0:0≤y)(h1:y≤100000):Exact prog 260 #[.int .u64 1,.int .u64 y] m (.tuple #[.int .u64 0,.int .u64 y]):=by
 refine D4 func260 O ntmps260 fun a=>q' 14 O<|y' (X.call call304 rfl (B3y _ y h0 h1))<|U 16 O<|B7 O O O<|A8 ?_
 first|rfl|(simp[*];done)
theorem A4p(m:Mem){vx:Value}{x:Span}(hx:Sl m vx [x]){i:Int}{n:Nat}(hi:i=n)(hn:0<n∧n≤1000):Mut prog 215 #[vx,J i] m [] (fun _ Es u=>Es=[A5 u 23 (List.replicate n x)]∧u.oneCell'=true):=by
 subst hi
 have s:([x]:List Span).length=1:=rfl
 refine G3 func215 O ntmps215 fun t=>q' 9 O<|y' (OpX.f (X.lss rfl rfl) (by omega))<|U 8 O<|l' hx O<|y' (O8 runUnderlying3 runUnderlying358 rfl (U2 (by omega) (by omega)))<|U 1 O<|y' (O8 runUnderlying3 runUnderlying358 rfl (U2 (by omega) (by omega)))<|y' (X.call call260 rfl (B4O _ ↑n (by omega) (by omega)))<|U 16 O<|y' (OpX.f (X.gtr rfl rfl) (by omega))<|U 9 O<|y' (O8 runUnderlying358 runUnderlying3 rfl (P7 (by omega) (by omega))) ?_
 refine G2 (GO n (a:=(Span.mk (0) (0))) K9 rfl rfl rfl (by omega) (by decide)) (by decide) (fun A=>?_)
 refine U 4 O ?_
 refine WK.form (k:=0) rfl (by simp;omega) (fun r l d b=>?_)
 simp only[Tf]at d b
 subst d
 refine q' 3 O<|A2D (B1j (α:=Span) (fun _ _ _ h=>h) (k:=0) underlying28 sizeOf23 rfl rfl hx rfl (by simp) (by simp) (by simp;omega)) (by decide)<|U 5 O ?_
 have o:([x]++(List.replicate n (Span.mk (0) (0))).drop [x].length)=(Z7 x (Span.mk 0 0) n 1):=A5h _ _ (by omega)
 rw[o]
 refine J4 (fun(k:Nat)=>n-k) (fun k=>[A5 (.slice (some ⟨r,0,none⟩) n l) 23 (Z7 x (Span.mk 0 0) n k)]) (fun k=>[(7,.slice (some ⟨r,0,none⟩) n l),(8,J k)]) (fun k=>1≤k∧k≤n) 1 ?_ ?_
 ·omega
 rintro k g
 try dsimp only at g
 refine have w:=g;have y:=Rf (x:=x) (z:=(Span.mk 0 0)) w.2;q' 5 O<|y' (V8 (k:=0) runUnderlying28 rfl rfl)<|c' (X.lss O O) (fun v=>?_) fun v=>?_
 ·refine U 6 O<|B9 10 [7] [7]<|U' 3 O<|Z O O (Ex (n:=n) (c:=l) k underlying28 sizeOf23 rfl rfl (by omega) (by omega) b)<|U' 2 O<|Z O O (A0J (n:=n) (c:=l) k underlying28 sizeOf23 rfl rfl (by omega) (by omega) b)<|A2L O O O O (B1D (α:=Span) (a:=k) (k:=0) underlying28 sizeOf23 rfl rfl rfl (Rf (by omega)) (by omega) (by omega)) (by decide)<|U' 2 O<|V' 2 O ?_
  have p:((Z7 x (Span.mk 0 0) n k).take k++(Z7 x (Span.mk 0 0) n k).take (min k (n-k))++(Z7 x (Span.mk 0 0) n k).drop (k+min k (n-k)))=(Z7 x (Span.mk 0 0) n (k+min k (n-k))):=A8D
  rw[p]
  exact I6 (k+min k (n-k))<|by omega
 refine U 9 O ?_
 have q:(Z7 x (Span.mk 0 0) n k)=(List.replicate n x):=(by rw[show k=n by omega];exact B2W _ _ _)
 rw[q]
 exact q' 6 O<|A0 O O<|I2<|⟨rfl,rfl⟩
theorem JE(m:Mem){b:Nat}{L:List Span}{k:Nat}{ik:Int}(hik:ik=k)(hk:k<L.length)(s:Span):Mut prog 216 #[Pt b 0,J ik,.agg [J s.Lo,J s.Hi].toArray] m [blk b 174 [vg,va],A5 va 23 L] (fun _ Es v=>v= .tuple #[]∧Es=[blk b 174 [vg,va],A5 va 23 (L.set k (EJ (gt L k) s))]):=by
 subst hik
 refine G3 func216 O ntmps216 fun n=>q' 2 O<|o' O O fun o=>U 6 O<|f' O t'<|b' 1 O O O<|U 1 O<|y' (A9 2 k)<|U 4 O<|B9 14 [13] [13]<|U' 3 O<|Z O O (A.f O)<|Z O O (P2 (k:=2) (i:=k) (off:=0) (u:=J (((gt L k)).Lo)) isAgg3 rfl rfl (by first|omega|(simp;omega)|simp) rfl)<|Z O O (A.f O)<|Z O O (A.b 0 O O O)<|Z O O (X.call call261 rfl (A1r _ _ _))<|U' 4 O<|Z O O (A.f O)<|B4 O O O O (D3 (k:=2) (i:=k) (off:=0) (us:=[J (max (((gt L k)).Lo) s.Lo)]) ((Span.mk (max (((gt L k)).Lo) s.Lo) (((gt L k)).Hi))) sizeOf3 rfl rfl rfl rfl (O' _) rfl (by first|omega|(simp;omega)|simp) rfl rfl (A4 rfl C6))<|V' 1 O ?_
 have g:(L.set k ((Span.mk (max (((gt L k)).Lo) s.Lo) (((gt L k)).Hi))))=(L.set k ⟨max (gt L k).Lo s.Lo,(gt L k).Hi⟩):=rfl
 rw[g]
 have c:=Ac L (a:=k) (⟨max (gt L k).Lo s.Lo,(gt L k).Hi⟩:Span) hk
 rw[D' rfl]at c
 have l:(L.set k ⟨max (gt L k).Lo s.Lo,(gt L k).Hi⟩).length=L.length:=(by simp)
 refine B9 14 [13] [13]<|U' 3 O<|Z O O (A.f O)<|Z O O (P2 (k:=2) (i:=k) (off:=1) (u:=J (((gt (L.set k ⟨max (gt L k).Lo s.Lo,(gt L k).Hi⟩) k)).Hi)) isAgg3 rfl rfl (by first|omega|(simp;omega)|simp) rfl)<|Z O O (A.f O)<|Z O O (A.b 0 O O O)<|Z O O (X.call call261 rfl (A1r _ _ _))<|U' 4 O<|Z O O (A.f O)<|B4 O O O O (D3 (k:=2) (i:=k) (off:=1) (us:=[J (min (((gt (L.set k ⟨max (gt L k).Lo s.Lo,(gt L k).Hi⟩) k)).Hi) s.Hi)]) ((Span.mk (((gt (L.set k ⟨max (gt L k).Lo s.Lo,(gt L k).Hi⟩) k)).Lo) (min (((gt (L.set k ⟨max (gt L k).Lo s.Lo,(gt L k).Hi⟩) k)).Hi) s.Hi))) sizeOf3 rfl rfl rfl rfl (O' _) rfl (by first|omega|(simp;omega)|simp) rfl rfl (A4 rfl C6))<|V' 0 O ?_
 refine D0 rfl (fun w' d=>B3 (d.weaken (.cons _ (.refl _))) ?_)
 refine⟨rfl,?_⟩
 rw[c,List.set_set]
 rfl
theorem A1U(m:Mem)(cd:List Value)(d:Drum)(hd:Enc.rd m cd d)(hdp:Bz d):Pure prog 175 #[.agg cd.toArray] m (fun m' v=>∃r0,v=r0∧Sl m' r0 (Bw d)):=by
 obtain⟨v1,S,rfl,I,l⟩:=hd
 refine have a3:=I.le;have a4:=l.le;have a5:=hdp.1;F6 func175 O ntmps175 fun V=>q' 2 O<|o' O O fun W=>U 5 O<|f' O t'<|b' 0 O O O ?_
 refine C5 (H3 call207 rfl (FO _ I (by omega))) (by decide) (fun m8 Es9 s r K=>?_)
 obtain⟨rfl,T⟩:=K
 refine have l:=l.mono r;U 6 O<|f' O t'<|b' 1 O O O<|l' l O<|U 4 O ?_
 have y:d.Rates=((List.range d.Rates.length).map (fun c=>H7 d c 0)):=(A6J d.Rates).symm
 rw[y]
 refine J4 (fun(k:Nat)=>d.Stops.length-k) (fun k=>[A5 (s) 23 ((List.range d.Rates.length).map (fun c=>H7 d c k)),blk W 31 [v1,S]]) (fun k=>[(3,s),(10,S),(11,J d.Stops.length),(12,J k)]) (fun k=>k≤d.Stops.length) 0 ?_ ?_
 ·exact EF _
 rintro k q
 try dsimp only at q
 have hk:=q
 have N:=fun h=>OM hdp (i:=k) h
 have a6:((List.range d.Rates.length).map (fun c=>H7 d c k)).length=d.Rates.length:=(by simp)
 refine q' 2 O<|c' (X.lss O O) (fun L=>?_) fun L=>?_
 ·refine U 10 O<|x' k l O O fun Y t=>g' t O fun a0 w=>?_
  obtain rfl:=w
  refine n' zeroValue108 O fun a1=>w' 0 O O O<|U 3 O ?_
  have o:=N (by omega)
  have Q:=o.1
  have z:=o.2
  unfold X8 at z
  have a7:=JT hdp (c:=((gt d.Stops k).Column:Int).toNat) (by omega) k (by omega)
  have p:=T8 (f:=fun c=>H7 d c k) (n:=d.Rates.length) (i:=((gt d.Stops k).Column:Int).toNat) (by omega)
  have B:=Sd Span.Lo p
  have C:=Sd Span.Hi p
  try dsimp only at B C
  refine B9 13 [12] [12]<|U' 1 O<|Z O O (A.f O)<|Z O O (A.b 0 O O O)<|Z O O (P1 (k:=1) runUnderlying28 sizeOf23 rfl rfl rfl (by first|omega|(simp;omega)|simp) (by first|omega|(simp;omega)|simp))<|Z O O (A.f O)<|Z O O (P2 (k:=1) (i:=((gt d.Stops k).Column:Int).toNat) (off:=0) (u:=J (((gt ((List.range d.Rates.length).map (fun c=>H7 d c k)) (((gt d.Stops k).Column:Int).toNat))).Lo)) isAgg3 rfl rfl (by first|omega|(simp;omega)|simp) rfl)<|Z O O (A.f O)<|Z O O (A.f O)<|Z O O (A.b 0 O O O)<|U' 1 O<|Z O O (P1 (k:=1) runUnderlying28 sizeOf23 rfl rfl rfl (by first|omega|(simp;omega)|simp) (by first|omega|(simp;omega)|simp))<|Z O O (A.f O)<|B4 O O O O (D3 (k:=1) (i:=((gt d.Stops k).Column:Int).toNat) (off:=0) (us:=[J ((((gt ((List.range d.Rates.length).map (fun c=>H7 d c k)) (((gt d.Stops k).Column:Int).toNat))).Lo)+(((gt d.Stops k).Ticks).Lo))]) ((Span.mk ((((gt ((List.range d.Rates.length).map (fun c=>H7 d c k)) (((gt d.Stops k).Column:Int).toNat))).Lo)+(((gt d.Stops k).Ticks).Lo)) (((gt ((List.range d.Rates.length).map (fun c=>H7 d c k)) (((gt d.Stops k).Column:Int).toNat))).Hi))) sizeOf3 rfl rfl rfl rfl (O' _) rfl (by first|omega|(simp;omega)|simp) rfl rfl (A4 rfl C6))<|V' 1 O ?_
  have P:=T8 (f:=fun c=>H7 d c k) (n:=d.Rates.length) (i:=((gt d.Stops k).Column:Int).toNat) (by omega)
  have g:=Ac ((List.range d.Rates.length).map (fun c=>H7 d c k)) (a:=((gt d.Stops k).Column:Int).toNat) (b:=((gt d.Stops k).Column:Int).toNat) (Span.mk ((H7 d ((gt d.Stops k).Column:Int).toNat k).Lo+(gt d.Stops k).Ticks.Lo) (H7 d ((gt d.Stops k).Column:Int).toNat k).Hi) (by simp;omega)
  rw[D' rfl]at g
  have R:(((List.range d.Rates.length).map (fun c=>H7 d c k)).set ((gt d.Stops k).Column:Int).toNat (Span.mk ((H7 d ((gt d.Stops k).Column:Int).toNat k).Lo+(gt d.Stops k).Ticks.Lo) (H7 d ((gt d.Stops k).Column:Int).toNat k).Hi)).length=d.Rates.length:=(by simp)
  have D:(((List.range d.Rates.length).map (fun c=>H7 d c k)).set (((gt d.Stops k).Column:Int).toNat) ((Span.mk ((((gt ((List.range d.Rates.length).map (fun c=>H7 d c k)) (((gt d.Stops k).Column:Int).toNat))).Lo)+(((gt d.Stops k).Ticks).Lo)) (((gt ((List.range d.Rates.length).map (fun c=>H7 d c k)) (((gt d.Stops k).Column:Int).toNat))).Hi))))=(((List.range d.Rates.length).map (fun c=>H7 d c k)).set ((gt d.Stops k).Column:Int).toNat (Span.mk ((H7 d ((gt d.Stops k).Column:Int).toNat k).Lo+(gt d.Stops k).Ticks.Lo) (H7 d ((gt d.Stops k).Column:Int).toNat k).Hi)):=(by rw[P])
  rw[D]
  have E:=Sd Span.Lo g
  have F:=Sd Span.Hi g
  try dsimp only at E F
  refine B9 13 [12] [12]<|U' 1 O<|Z O O (A.f O)<|Z O O (A.b 0 O O O)<|Z O O (P1 (k:=1) runUnderlying28 sizeOf23 rfl rfl rfl (by first|omega|(simp;omega)|simp) (by first|omega|(simp;omega)|simp))<|Z O O (A.f O)<|Z O O (P2 (k:=1) (i:=((gt d.Stops k).Column:Int).toNat) (off:=1) (u:=J (((gt (((List.range d.Rates.length).map (fun c=>H7 d c k)).set ((gt d.Stops k).Column:Int).toNat (Span.mk ((H7 d ((gt d.Stops k).Column:Int).toNat k).Lo+(gt d.Stops k).Ticks.Lo) (H7 d ((gt d.Stops k).Column:Int).toNat k).Hi)) (((gt d.Stops k).Column:Int).toNat))).Hi)) isAgg3 rfl rfl (by first|omega|(simp;omega)|simp) rfl)<|Z O O (A.f O)<|Z O O (A.f O)<|Z O O (A.b 0 O O O)<|U' 1 O<|Z O O (P1 (k:=1) runUnderlying28 sizeOf23 rfl rfl rfl (by first|omega|(simp;omega)|simp) (by first|omega|(simp;omega)|simp))<|Z O O (A.f O)<|B4 O O O O (D3 (k:=1) (i:=((gt d.Stops k).Column:Int).toNat) (off:=1) (us:=[J ((((gt (((List.range d.Rates.length).map (fun c=>H7 d c k)).set ((gt d.Stops k).Column:Int).toNat (Span.mk ((H7 d ((gt d.Stops k).Column:Int).toNat k).Lo+(gt d.Stops k).Ticks.Lo) (H7 d ((gt d.Stops k).Column:Int).toNat k).Hi)) (((gt d.Stops k).Column:Int).toNat))).Hi)+(((gt d.Stops k).Ticks).Hi))]) ((Span.mk (((gt (((List.range d.Rates.length).map (fun c=>H7 d c k)).set ((gt d.Stops k).Column:Int).toNat (Span.mk ((H7 d ((gt d.Stops k).Column:Int).toNat k).Lo+(gt d.Stops k).Ticks.Lo) (H7 d ((gt d.Stops k).Column:Int).toNat k).Hi)) (((gt d.Stops k).Column:Int).toNat))).Lo) ((((gt (((List.range d.Rates.length).map (fun c=>H7 d c k)).set ((gt d.Stops k).Column:Int).toNat (Span.mk ((H7 d ((gt d.Stops k).Column:Int).toNat k).Lo+(gt d.Stops k).Ticks.Lo) (H7 d ((gt d.Stops k).Column:Int).toNat k).Hi)) (((gt d.Stops k).Column:Int).toNat))).Hi)+(((gt d.Stops k).Ticks).Hi)))) sizeOf3 rfl rfl rfl rfl (O' _) rfl (by first|omega|(simp;omega)|simp) rfl rfl (A4 rfl C6))<|V' 7 O ?_
  have G:((((List.range d.Rates.length).map (fun c=>H7 d c k)).set ((gt d.Stops k).Column:Int).toNat (Span.mk ((H7 d ((gt d.Stops k).Column:Int).toNat k).Lo+(gt d.Stops k).Ticks.Lo) (H7 d ((gt d.Stops k).Column:Int).toNat k).Hi)).set (((gt d.Stops k).Column:Int).toNat) ((Span.mk (((gt (((List.range d.Rates.length).map (fun c=>H7 d c k)).set ((gt d.Stops k).Column:Int).toNat (Span.mk ((H7 d ((gt d.Stops k).Column:Int).toNat k).Lo+(gt d.Stops k).Ticks.Lo) (H7 d ((gt d.Stops k).Column:Int).toNat k).Hi)) (((gt d.Stops k).Column:Int).toNat))).Lo) ((((gt (((List.range d.Rates.length).map (fun c=>H7 d c k)).set ((gt d.Stops k).Column:Int).toNat (Span.mk ((H7 d ((gt d.Stops k).Column:Int).toNat k).Lo+(gt d.Stops k).Ticks.Lo) (H7 d ((gt d.Stops k).Column:Int).toNat k).Hi)) (((gt d.Stops k).Column:Int).toNat))).Hi)+(((gt d.Stops k).Ticks).Hi)))))=((List.range d.Rates.length).map (fun c=>H7 d c (k+1))):=(by rw[g,List.set_set];exact A8b hdp (by omega))
  rw[G]
  exact I6 (k+1)<|by omega
 refine U 10 O ?_
 have H:((List.range d.Rates.length).map (fun c=>H7 d c k))=(Bw d):=(by rw[show k=d.Stops.length by omega];rfl)
 rw[H]
 refine q' 6 O ?_
 refine E4 0 rfl rfl (by simp[Bw,C7];omega) (fun a2 M x=>?_)
 exact A0 O O<|C2<|⟨_,rfl,x⟩
theorem A2H(m:Mem)(cd:List Value)(d:Drum)(hd:Enc.rd m cd d)(vm_:Value)(m_:List Mark)(hm_:Sl m vm_ m_)(hok:Ok d m_):Pure prog 139 #[.agg cd.toArray,vm_] m (fun m' v=>∃r0,v= .agg r0.toArray∧Enc.rd m' r0 (Clk.mk (Bw d) (Mn d m_))):=by
 obtain⟨v1,v3,rfl,g,I⟩:=hd
 refine have b0:=g.le;have b1:=I.le;have b2:=hm_.le;have b3:=hok.dr.1;have b4:=hok.n;F6 func139 O ntmps139 fun a0=>q' 2 O<|o' O O fun b7=>n' zeroValue174 O fun S=>U 4 O<|a' 1 O O<|C0 (T.call call175 rfl (A1U _ _ d ⟨_,_,rfl,g,I⟩ hok.dr)) (by decide) fun m9 w l y=>?_
 obtain⟨R,K,a⟩:=y
 rw[←K]at a
 clear K R
 refine have g:=g.mono l;have hm_:=hm_.mono l;have W:=a.le;WL.x (V:=Value.agg [w,S0].toArray) (X.build zeroValue174 runUnderlying174 (ED _ underlying174) rfl (by simp only[Instr.fill,D7 a.one];rfl)) (by decide) ?_
 refine n' zeroValue174 O fun z=>w' 0 O O O<|U 4 O<|WL.x (V:=Value.agg [J 0,J 400].toArray) (X.build zeroValue23 runUnderlying23 (H6 _ underlying23) rfl rfl) (by decide) ?_
 refine C0 (M5 (α:=Span) (vals:=[.agg [J 0,J 400].toArray]) (L:=[(Span.mk (0) (400))]) K9 rfl (.cons rfl rfl .nil) rfl rfl) (by decide) (fun a1 a2 b A=>?_)
 refine have g:=g.mono b;have hm_:=hm_.mono b;have a:=a.mono b;f' O t'<|b' 2 O O O<|l' g O<|U 1 O ?_
 refine C5 (H3 call215 rfl (A4p _ A (n:=d.Rates.length+1) (by omega) (by omega))) (by decide) (fun a3 _ B o t=>?_)
 obtain⟨rfl,M⟩:=t
 refine have hm_:=hm_.mono o;have a:=a.mono o;f' O t'<|G7 (C1 (k:=1) sizeOf28 rfl rfl rfl M (J' rfl))<|U 6 O<|l' hm_ O<|U 4 O ?_
 have F:(List.replicate (d.Rates.length+1) ((Span.mk (0) (400))))=((List.range (d.Rates.length+1)).map (fun c=>Cs m_ 0 c)):=(B2M _ _)
 rw[F]
 refine J4 (fun(k:Nat)=>m_.length-k) (fun k=>[A5 (B) 23 ((List.range (d.Rates.length+1)).map (fun c=>Cs m_ k c)),blk z 174 [w,B],blk S 174 [S0,S0],blk b7 31 [v1,v3]]) (fun k=>[(4,Pt S 0),(5,Pt z 0),(19,vm_),(20,J m_.length),(21,J k)]) (fun k=>k≤m_.length) 0 ?_ ?_
 ·exact EF _
 rintro k s
 try dsimp only at s
 have hk:=s
 refine N5 (fun r=>?_)
 have P:=fun h=>hok.col (j:=k) h
 have b5:((List.range (d.Rates.length+1)).map (fun c=>Cs m_ k c)).length=d.Rates.length+1:=(by simp)
 refine q' 2 O<|c' (X.lss O O) (fun N=>?_) fun N=>?_
 ·refine U 10 O<|x' k hm_ O O fun a4 C=>g' C O fun a5 D=>?_
  obtain rfl:=D
  refine n' zeroValue98 O fun a6=>w' 0 O O O<|U 2 O ?_
  have Y:=(P (by omega)).1
  refine q' 1 O<|f' O t'<|b' 0 O O O<|f' O t'<|y' (J5 (k:=0) (vs:=[J (((gt m_ k).Ticks).Lo),J (((gt m_ k).Ticks).Hi)]) isAgg23 sizeOf23 rfl rfl rfl rfl) ?_
  refine C5 (K5 [2,1] call216 O (JE _ (k:=(((gt m_ k).Column:Int).toNat)) (by omega) (by omega) ((gt m_ k).Ticks))) (by decide) (fun a7 a8 v_ q t=>?_)
  obtain⟨rfl,rfl⟩:=t
  refine have a:=a.mono q;U 8 O ?_
  have Q:=T8 (f:=fun c=>Cs m_ k c) (n:=d.Rates.length+1) (i:=((gt m_ k).Column:Int).toNat) (by omega)
  have G:(((List.range (d.Rates.length+1)).map (fun c=>Cs m_ k c)).set (((gt m_ k).Column:Int).toNat) (EJ (gt ((List.range (d.Rates.length+1)).map (fun c=>Cs m_ k c)) (((gt m_ k).Column:Int).toNat)) ((gt m_ k).Ticks)))=((List.range (d.Rates.length+1)).map (fun c=>Cs m_ (k+1) c)):=(by rw[Q];exact B2m hok.ma (by omega))
  rw[G]
  exact G9 r q<|WK.p [2,1]<|I6 (k+1)<|by omega
 refine U 10 O ?_
 have H:((List.range (d.Rates.length+1)).map (fun c=>Cs m_ k c))=(Mn d m_):=(by rw[show k=m_.length by omega];rfl)
 rw[H]
 refine q' 1 O<|a' 1 O O<|w' 2 O O O<|U 3 O ?_
 refine E4 0 rfl rfl (by rw[Oh];unfold C7;omega) (fun a9 u E=>?_)
 exact have a:=a.mono u;Ad 1 O O O isAgg174 sizeOf174<|C2<|⟨_,rfl,⟨_,_,rfl,a,E⟩⟩
theorem B3Z(m:Mem)(vg va:Value):Pure prog 217 #[.agg [vg,va].toArray] m (fun m' v=>∃pc:Addr,v= .func (.func 262) #[] [.pointer (some pc)].toArray∧Cells m' pc [vg,va]):=by
 refine F6 func217 O ntmps217 fun d=>q' 2 O<|o' O O fun f=>U 4 O ?_
 refine M6 0 rfl rfl (fun g b a=>?_)
 exact q' 1 O<|y' (X.makeFunc (by intro x c;simp at c;subst c;all_goals exact⟨_,rfl⟩) rfl)<|U 4 O<|A0 O O<|C2<|⟨_,rfl,a⟩
theorem B4K(m:Mem)(vg va:Value):Pure prog 218 #[.agg [vg,va].toArray] m (fun m' v=>∃pc:Addr,v= .func (.func 263) #[] [.pointer (some pc)].toArray∧Cells m' pc [vg,va]):=by
 refine F6 func218 O ntmps218 fun d=>q' 2 O<|o' O O fun f=>U 4 O ?_
 refine M6 0 rfl rfl (fun g b a=>?_)
 exact q' 1 O<|y' (X.makeFunc (by intro x c;simp at c;subst c;all_goals exact⟨_,rfl⟩) rfl)<|U 4 O<|A0 O O<|C2<|⟨_,rfl,a⟩
theorem B2N(m:Mem){pc:Addr}{G:List Span}(hc:Cells m pc [vg,va])(hG:Sl m vg G):S1 prog 262 [.pointer (some pc)] m false G.length (fun i _ args=>args=#[J ((i:Nat):Int),.agg [J (gt G i).Lo,J (gt G i).Hi].toArray]):=by
 intro lo S HS I Ix D w t E F
 refine have C:=hG.le;G3 func262 O ntmps262 fun y=>q' 2 O ?_
 have r:Cells m (pc.add 0) [vg]:=hc.part 0 (by intro j v x;cases j with|zero=>exact x|succ j=>simp at x)
 refine f' O t'<|y' (J9 isAgg28 rfl r)<|l' hG O<|U 4 O ?_
 refine lp (G:=Nat×Int×Mem×S) (fun(k,q,mm,s)=>G.length-k) (fun(k,q,mm,s)=>mm) (fun(k,q,mm,s)=>([]++HS s)) (fun(k,q,mm,s)=>[(0,.func (.yield lo) #[] #[]),(6,vg),(7,J G.length),(8,J k)]) (fun(k,q,mm,s)=>m.le mm∧(k≤G.length)∧I k mm s) ((0,0,m,D)) ?_ ?_
 ·exact⟨Mem.le_refl _,by omega,F⟩
 rintro⟨k,q,mm,s⟩ g
 conv=>enter [7];dsimp only
 conv=>enter [8];dsimp only
 try dsimp only at g
 obtain⟨f,L,l⟩:=g
 refine have hG:=hG.mono f;q' 2 O<|c' (X.lss O O) (fun z=>?_) fun z=>?_
 ·refine U 11 O<|x' k hG O O fun H o=>g' o O fun K p=>?_
  obtain rfl:=p
  refine n' zeroValue23 O fun B=>U 1 O<|w' 0 O O O<|U 6 O<|a' 0 O O ?_
  refine AB (T.yield (A:=[blk B 23 [J ((gt G k).Lo),J ((gt G k).Hi)]]) rfl rfl rfl (E k _ s _ (by omega) f rfl l)) (by decide) (fun u H10 a=>?_) (fun u H10 a=>?_)
  ·obtain⟨b,n,rfl,c⟩:=a
   refine U 12 O ?_
   refine nx ((k+1,0,u,n)) ?_ ?_
   ·exact⟨Mem.le_trans f b,by omega,c⟩
   (dsimp only;omega)
  obtain⟨b,n,rfl,c⟩:=a
  refine U 9 O ?_
  refine E9 rfl (fun w' d=>B3 (d.weaken (.cons _ (.refl _))) ?_)
  exact⟨_,rfl,.inr ⟨k+1,by omega,c⟩⟩
 refine U 8 O ?_
 refine D0 rfl (fun w' d=>B3 (d.weaken (.refl _)) ?_)
 refine⟨_,rfl,.inl ?_⟩
 rw[show G.length=k by omega]
 exact l
theorem B1V(m:Mem){pc:Addr}{G:List Span}(hc:Cells m pc [vg,va])(hG:Sl m vg G):S1 prog 263 [.pointer (some pc)] m false G.length (fun i _ args=>args=#[J (((G.length-1-i):Nat):Int),.agg [J (gt G (G.length-1-i)).Lo,J (gt G (G.length-1-i)).Hi].toArray]):=by
 intro lo S HS I Ix D y w E F
 refine have C:=hG.le;G3 func263 O ntmps263 fun z=>q' 2 O ?_
 have t:Cells m (pc.add 0) [vg]:=hc.part 0 (by intro j v o;cases j with|zero=>exact o|succ j=>simp at o)
 refine f' O t'<|y' (J9 isAgg28 rfl t)<|l' hG O<|U 5 O ?_
 refine lp (G:=Nat×Int×Mem×S) (fun(k,q,mm,s)=>G.length-k) (fun(k,q,mm,s)=>mm) (fun(k,q,mm,s)=>([]++HS s)) (fun(k,q,mm,s)=>[(0,.func (.yield lo) #[] #[]),(1,.pointer (some pc)),(3,J q)]) (fun(k,q,mm,s)=>m.le mm∧(k≤G.length∧q=(G.length:Int)-1-k)∧I k mm s) ((0,(↑G.length-1),m,D)) ?_ ?_
 ·exact⟨Mem.le_refl _,by omega,F⟩
 rintro⟨k,q,mm,s⟩ g
 conv=>enter [7];dsimp only
 conv=>enter [8];dsimp only
 try dsimp only at g
 obtain⟨d,L,l⟩:=g
 refine have hc:=hc.mono d;have hG:=hG.mono d;q' 4 O<|c' (X.geq O O) (fun B=>?_) fun B=>?_
 ·refine U 11 O ?_
  have u:Cells mm (pc.add 0) [vg]:=hc.part 0 (by intro j v o;cases j with|zero=>exact o|succ j=>simp at o)
  refine f' O t'<|y' (J9 isAgg28 rfl u)<|U 1 O<|Q9 (BV runUnderlying28 sizeOf23 rfl rfl hG (by omega) (by omega)) (by decide) fun H p=>g' p O fun K r=>?_
  obtain rfl:=r
  refine AB (T.yield (A:=[]) rfl rfl rfl (E k _ s _ (by omega) d (by show _=_;rw[show((G.length-1-k:Nat):Int)=q by omega,show G.length-1-k=q.toNat by omega];rfl) l)) (by decide) (fun x H10 a=>?_) (fun x H10 a=>?_)
  ·obtain⟨b,n,rfl,c⟩:=a
   refine U 13 O ?_
   refine nx ((k+1,q-1,x,n)) ?_ ?_
   ·exact⟨Mem.le_trans d b,by omega,c⟩
   (dsimp only;omega)
  obtain⟨b,n,rfl,c⟩:=a
  refine U 9 O ?_
  refine E9 rfl (fun w' f=>B3 (f.weaken (.refl _)) ?_)
  exact⟨_,rfl,.inr ⟨k+1,by omega,c⟩⟩
 refine U 7 O ?_
 refine D0 rfl (fun w' f=>B3 (f.weaken (.refl _)) ?_)
 refine⟨_,rfl,.inl ?_⟩
 rw[show G.length=k by omega]
 exact l
theorem A2T(m:Mem)(cc:List Value)(c:Clk)(hc:Enc.rd m cc c)(hw:CkW c):Pure prog 140 #[.agg cc.toArray] m (fun m' v=>∃r0,v= .tuple #[.agg r0.toArray,.bool (decide (MQ c))]∧Enc.rd m' r0 (Clk.mk c.gaps (Y2 c))):=by
 obtain⟨z,v3,rfl,o,b6⟩:=hc
 refine have e3:=o.le;have e4:=b6.le;have e5:=hw.n;have e6:=hw.l;F6 func140 O ntmps140 fun d3=>q' 2 O<|o' O O fun w=>n' zeroValue174 O fun D=>U 6 O<|f' O t'<|b' 1 O O O ?_
 refine C5 (H3 call207 rfl (FO _ b6 (by omega))) (by decide) (fun m9 Es10 a a7 y=>?_)
 obtain⟨rfl,b9⟩:=y
 refine have o:=o.mono a7;f' O t'<|G7 (C1 (k:=2) sizeOf28 rfl rfl rfl b9 (J' rfl))<|U 7 O ?_
 refine S5 (fun(r:Nat) (L:List Span)=>2-r) (fun r L=>[A5 (a) 23 (L),blk D 174 [S0,S0],blk w 174 [z,a]]) (fun r L=>[(1,Pt w 0),(2,Pt D 0)]) (fun r L=>Jo c L∧r≤1∧(r=1→L=Y2 c)) 0 c.at_ ?_ ?_
 ·exact⟨.inl rfl,by omega,fun h=>absurd h (by omega)⟩
 rintro r L ⟨hI,hr,d0⟩
 refine N5 (fun a3=>?_)
 refine have c6:=A9K hw hI;q' 3 O<|f' O t'<|b' 2 O O O ?_
 refine C5 (KR (R:=fun a8 u_=>a8=[A5 u_ 23 L]∧u_.oneCell'=true) call207 rfl (fun _ w_ M=>FO _ (M.rowFSl (k:=0) rfl (by unfold C7;omega)) (by omega))) (by decide) (fun d4 Es16 s P y=>?_)
 obtain⟨rfl,d2⟩:=y
 refine have o:=o.mono P;U 6 O<|a' 3 O O ?_
 refine C0 (T.call call217 rfl (B3Z _ z a)) (by decide) (fun d5 d6 Q y=>?_)
 obtain⟨E,rfl,c0⟩:=y
 refine have o:=o.mono Q;U 3 O<|WK.p [3,1] ?_
 refine N8 (S:=List Span) (G:=Nat) (ps:=[18,19]) (n:=c.gaps.length) (A:=fun i _ d=>d=[J ((i:Nat):Int),.agg [J (gt c.gaps i).Lo,J (gt c.gaps i).Hi].toArray].toArray) rfl call262 (B2N _ c0 o) (fun W:List Span=>[blk w 174 [z,a],A5 (a) 23 (W),A5 (s) 23 (L),blk D 174 [S0,S0]]) (fun i _ W=>W=Z9 c.gaps L i) (fun _ _ _ _=>False) L rfl (A9N c6).symm (fun h=>by cases h) (fun _ _ _ _ _ h=>h) (by simp) (fun i m1 d h=>by subst h;rfl) (fun N d gh=>blk N 23 ((d.getD 1 undef).cells.toList)::(fun W:List Span=>[blk w 174 [z,a],A5 (a) 23 (W),A5 (s) 23 (L),blk D 174 [S0,S0]]) gh) (fun N d=>(5,d.headD undef)::(6,Pt N 0)::[(1,Pt w 0),(2,Pt D 0),(13,Pt w 1),(14,a),(15,s),(4,s),(16,.agg [z,a].toArray),(17,.func (.func 262) #[] [.pointer (some E)].toArray)]) ?_ ?_ ?_ ?_ ?_
 ·intro lo B1 i I gh d KK a2 H B b1
  have F:d=[J ((i:Nat):Int),.agg [J (gt c.gaps i).Lo,J (gt c.gaps i).Hi].toArray]:=(by have:=Sd Array.toList H;simpa using this)
  subst F
  refine qb ?_
  exact q' 6 O<|n' zeroValue23 O fun c2=>w' 0 O O O<|U 2 O<|I8 (.cons rfl (.cons rfl (.cons rfl (.cons rfl (.cons rfl (.cons rfl (.cons rfl (.cons rfl (.cons rfl (.cons rfl .nil)))))))))) (b1 c2)
 ·intro lo B1 i I gh d N a2 hi B H t
  have F:d=[J ((i:Nat):Int),.agg [J (gt c.gaps i).Lo,J (gt c.gaps i).Hi].toArray]:=(by have:=Sd Array.toList H;simpa using this)
  subst F
  obtain rfl:=t
  replace o:=o.mono B
  show WK _ _ I [blk N 23 [J ((gt c.gaps i).Lo),J ((gt c.gaps i).Hi)],blk w 174 [z,a],A5 (a) 23 (Z9 c.gaps L i),A5 (s) 23 (L),blk D 174 [S0,S0]] [(5,J i),(6,Pt N 0),(1,Pt w 0),(2,Pt D 0),(13,Pt w 1),(14,a),(15,s),(4,s),(16,.agg [z,a].toArray),(17,.func (.func 262) #[] [.pointer (some E)].toArray)] _
  have c7:=B4A hw hI (i:=i) (j:=i) (by omega)
  have c8:=hw.g i hi
  have c9:=OG c.gaps L i
  refine qb ?_
  refine q' 1 O<|B9 22 [21] [21]<|U' 2 O<|Z O O (A.f O)<|Z O O (A.b 1 O O O)<|U' 1 O<|Z O O (A9 2 i)<|Z O O (A.f O)<|Z O O (P2 (k:=2) (i:=i) (off:=0) (u:=J (((gt (Z9 c.gaps L i) i)).Lo)) isAgg3 rfl rfl (by first|omega|(simp;omega)|simp) rfl)<|Z O O (A.f O)<|Z O O (A.b 0 O O O)<|U' 1 O<|Z O O (A.f O)<|Z O O (A.b 1 O O O)<|U' 1 O<|Z O O (A9 2 i)<|Z O O (A.f O)<|Z O O (P2 (k:=2) (i:=i) (off:=1) (u:=J (((gt (Z9 c.gaps L i) i)).Hi)) isAgg3 rfl rfl (by first|omega|(simp;omega)|simp) rfl)<|Z O O (A.f O)<|Z O O (A.b 0 O O O)<|U' 1 O<|DW.x (V:=Value.agg [J ((((gt (Z9 c.gaps L i) i)).Lo)+((gt c.gaps i).Lo)),J ((((gt (Z9 c.gaps L i) i)).Hi)+((gt c.gaps i).Hi))].toArray) O O (X.build zeroValue23 runUnderlying23 (H6 _ underlying23) rfl rfl) (by decide) ?_
  refine DH rfl rfl rfl rfl (K5 [1,1] call216 O (JE _ (k:=(i+1)) (by omega) (by omega) ((Span.mk ((((gt (Z9 c.gaps L i) i)).Lo)+((gt c.gaps i).Lo)) ((((gt (Z9 c.gaps L i) i)).Hi)+((gt c.gaps i).Hi)))))) (by decide) (fun d7 a8 v_ Y y=>?_)
  obtain⟨rfl,rfl⟩:=y
  refine have o:=o.mono Y;V' 1 O ?_
  have b3:((Z9 c.gaps L i).set (i+1) (EJ (gt (Z9 c.gaps L i) (i+1)) ((Span.mk ((((gt (Z9 c.gaps L i) i)).Lo)+((gt c.gaps i).Lo)) ((((gt (Z9 c.gaps L i) i)).Hi)+((gt c.gaps i).Hi))))))=(Z9 c.gaps L (i+1)):=(A9n hi)
  rw[b3]
  exact WK.p [2]<|P6 (Z9 c.gaps L (i+1)) Y (.cons _ (.refl _)) rfl
 ·intro I gh B t
  obtain rfl:=t
  refine have o:=o.mono B;I8 (σ':=[(1,Pt w 0),(2,Pt D 0),(13,Pt w 1),(14,a),(15,s),(4,s),(16,.agg [z,a].toArray),(17,.func (.func 262) #[] [.pointer (some E)].toArray)]) (.cons rfl (.cons rfl (.cons rfl (.cons rfl (.cons rfl (.cons rfl (.cons rfl (.cons rfl .nil)))))))) ?_
  show WK _ _ I [blk w 174 [z,a],A5 (a) 23 (Z9 c.gaps L c.gaps.length),A5 (s) 23 (L),blk D 174 [S0,S0]] [(1,Pt w 0),(2,Pt D 0),(13,Pt w 1),(14,a),(15,s),(4,s),(16,.agg [z,a].toArray),(17,.func (.func 262) #[] [.pointer (some E)].toArray)] _
  refine P4<|E2<|q' 3 O<|a' 0 O O ?_
  refine C0 (T.call call218 rfl (B4K _ z a)) (by decide) (fun d8 d9 a0 y=>?_)
  obtain⟨a4,rfl,c1⟩:=y
  refine have o:=o.mono a0;U 3 O ?_
  refine N8 (S:=List Span) (G:=Nat) (ps:=[44,45]) (n:=c.gaps.length) (A:=fun i _ d=>d=[J (((c.gaps.length-1-i):Nat):Int),.agg [J (gt c.gaps (c.gaps.length-1-i)).Lo,J (gt c.gaps (c.gaps.length-1-i)).Hi].toArray].toArray) rfl call263 (B1V _ c1 o) (fun W:List Span=>[blk w 174 [z,a],A5 (a) 23 (W),A5 (s) 23 (L),blk D 174 [S0,S0]]) (fun i _ W=>W=Ab c.gaps L i) (fun _ _ _ _=>False) (Z9 c.gaps L c.gaps.length) rfl (A7C _ _) (fun h=>by cases h) (fun _ _ _ _ _ h=>h) (by simp) (fun i m1 d h=>by subst h;rfl) (fun N d gh=>blk N 23 ((d.getD 1 undef).cells.toList)::(fun W:List Span=>[blk w 174 [z,a],A5 (a) 23 (W),A5 (s) 23 (L),blk D 174 [S0,S0]]) gh) (fun N d=>(7,d.headD undef)::(8,Pt N 0)::[(1,Pt w 0),(2,Pt D 0),(13,Pt w 1),(14,a),(15,s),(4,s),(16,.agg [z,a].toArray),(17,.func (.func 262) #[] [.pointer (some E)].toArray),(42,.agg [z,a].toArray),(43,.func (.func 263) #[] [.pointer (some a4)].toArray)]) ?_ ?_ ?_ ?_ ?_
  ·intro lo B1 i K gh d KK a2 H C b1
   have F:d=[J (((c.gaps.length-1-i):Nat):Int),.agg [J (gt c.gaps (c.gaps.length-1-i)).Lo,J (gt c.gaps (c.gaps.length-1-i)).Hi].toArray]:=(by have:=Sd Array.toList H;simpa using this)
   subst F
   refine qb ?_
   exact q' 6 O<|n' zeroValue23 O fun c3=>w' 0 O O O<|U 2 O<|I8 (.cons rfl (.cons rfl (.cons rfl (.cons rfl (.cons rfl (.cons rfl (.cons rfl (.cons rfl (.cons rfl (.cons rfl (.cons rfl (.cons rfl .nil)))))))))))) (b1 c3)
  ·intro lo B1 i K gh d N a2 hi C H t
   have F:d=[J (((c.gaps.length-1-i):Nat):Int),.agg [J (gt c.gaps (c.gaps.length-1-i)).Lo,J (gt c.gaps (c.gaps.length-1-i)).Hi].toArray]:=(by have:=Sd Array.toList H;simpa using this)
   subst F
   obtain⟨q,hq⟩:∃q,q=(c.gaps.length-1-i):=⟨_,rfl⟩
   rw[←hq]
   obtain rfl:=t
   replace o:=o.mono C
   show WK _ _ K [blk N 23 [J ((gt c.gaps q).Lo),J ((gt c.gaps q).Hi)],blk w 174 [z,a],A5 (a) 23 (Ab c.gaps L i),A5 (s) 23 (L),blk D 174 [S0,S0]] [(7,J q),(8,Pt N 0),(1,Pt w 0),(2,Pt D 0),(13,Pt w 1),(14,a),(15,s),(4,s),(16,.agg [z,a].toArray),(17,.func (.func 262) #[] [.pointer (some E)].toArray),(42,.agg [z,a].toArray),(43,.func (.func 263) #[] [.pointer (some a4)].toArray)] _
   have c7:=B4E hw hI (i:=i) (j:=q+1) (by omega)
   have c8:=hw.g q (by omega)
   have c9:=OF c.gaps L i
   refine qb ?_
   refine q' 1 O<|B9 23 [22] [22]<|U' 1 O<|Z O O (A.f O)<|Z O O (A.b 1 O O O)<|U' 2 O<|Z O O (A9 2 (q+1))<|Z O O (A.f O)<|Z O O (P2 (k:=2) (i:=q+1) (off:=0) (u:=J (((gt (Ab c.gaps L i) (q+1))).Lo)) isAgg3 rfl rfl (by first|omega|(simp;omega)|simp) rfl)<|Z O O (A.f O)<|Z O O (A.b 0 O O O)<|U' 1 O<|Z O O (A.f O)<|Z O O (A.b 1 O O O)<|U' 2 O<|Z O O (A9 2 (q+1))<|Z O O (A.f O)<|Z O O (P2 (k:=2) (i:=q+1) (off:=1) (u:=J (((gt (Ab c.gaps L i) (q+1))).Hi)) isAgg3 rfl rfl (by first|omega|(simp;omega)|simp) rfl)<|Z O O (A.f O)<|Z O O (A.b 0 O O O)<|U' 1 O<|DW.x (V:=Value.agg [J ((((gt (Ab c.gaps L i) (q+1))).Lo)-((gt c.gaps q).Hi)),J ((((gt (Ab c.gaps L i) (q+1))).Hi)-((gt c.gaps q).Lo))].toArray) O O (X.build zeroValue23 runUnderlying23 (H6 _ underlying23) rfl rfl) (by decide) ?_
   refine DH rfl rfl rfl rfl (K5 [1,1] call216 O (JE _ (k:=q) (by omega) (by omega) ((Span.mk ((((gt (Ab c.gaps L i) (q+1))).Lo)-((gt c.gaps q).Hi)) ((((gt (Ab c.gaps L i) (q+1))).Hi)-((gt c.gaps q).Lo)))))) (by decide) (fun e0 a8 v_ a1 y=>?_)
   obtain⟨rfl,rfl⟩:=y
   refine have o:=o.mono a1;V' 1 O ?_
   have b4:((Ab c.gaps L i).set q (EJ (gt (Ab c.gaps L i) q) ((Span.mk ((((gt (Ab c.gaps L i) (q+1))).Lo)-((gt c.gaps q).Hi)) ((((gt (Ab c.gaps L i) (q+1))).Hi)-((gt c.gaps q).Lo))))))=(Ab c.gaps L (i+1)):=(A8X hi hq)
   rw[b4]
   exact WK.p [2]<|P6 (Ab c.gaps L (i+1)) a1 (.cons _ (.refl _)) rfl
  ·intro K gh C t
   obtain rfl:=t
   refine have o:=o.mono C;I8 (σ':=[(1,Pt w 0),(2,Pt D 0),(13,Pt w 1),(14,a),(15,s),(4,s),(16,.agg [z,a].toArray),(17,.func (.func 262) #[] [.pointer (some E)].toArray),(42,.agg [z,a].toArray),(43,.func (.func 263) #[] [.pointer (some a4)].toArray)]) (.cons rfl (.cons rfl (.cons rfl (.cons rfl (.cons rfl (.cons rfl (.cons rfl (.cons rfl (.cons rfl (.cons rfl .nil)))))))))) ?_
   show WK _ _ K [blk w 174 [z,a],A5 (a) 23 (Ab c.gaps L c.gaps.length),A5 (s) 23 (L),blk D 174 [S0,S0]] [(1,Pt w 0),(2,Pt D 0),(13,Pt w 1),(14,a),(15,s),(4,s),(16,.agg [z,a].toArray),(17,.func (.func 262) #[] [.pointer (some E)].toArray),(42,.agg [z,a].toArray),(43,.func (.func 263) #[] [.pointer (some a4)].toArray)] _
   refine P4<|E2<|q' 2 O ?_
   have b5:(Ab c.gaps L c.gaps.length)=(Y2 c):=((A8g c L).trans (A9g hw hI))
   rw[b5]
   refine have e7:=FL c;q' 1 O<|f' O t'<|b' 0 O O O<|c' (Ft call178 rfl (fun w_ M=>A2b (p:=fun i=>(gt (Y2 c) i).Hi<(gt (Y2 c) i).Lo) _ (M.rowFSl (k:=1) rfl (by unfold C7;omega)) (caps:=[]) call219 (fun i _=>B3F _ _ (gt (Y2 c) i) rfl))) (fun c4=>?_) fun c4=>?_
   ·refine U 5 O<|a' 0 O O<|w' 3 O O O<|U 10 O ?_
    refine E4 1 rfl rfl (by rw[FL];unfold C7;omega) (fun e1 a9 a5=>?_)
    refine have o:=o.mono a9;E6 2 O O O O isAgg174 sizeOf174<|C2 ?_
    first|exact⟨_,G4 rfl (B2 (fun h_=>by have:=Jg.1 h_;contradiction)),⟨_,_,rfl,o,a5⟩⟩|exact⟨_,G4 rfl (D5 (Jg.2 (Su ‹_›))),⟨_,_,rfl,o,a5⟩⟩
   refine U 8 O<|f' O t'<|b' 0 O O O<|c' (Ft call220 rfl (fun w_ M=>A0j _ _ L (M.rowFSl (k:=2) rfl (by unfold C7;omega)) _ (Y2 c) (M.rowFSl (k:=1) rfl (by unfold C7;omega)))) (fun c5=>?_) fun c5=>?_
   ·refine U 10 O<|a' 0 O O<|w' 3 O O O<|U 5 O ?_
    refine E4 1 rfl rfl (by rw[FL];unfold C7;omega) (fun e2 b0 a6=>?_)
    refine have o:=o.mono b0;E6 2 O O O O isAgg174 sizeOf174<|C2 ?_
    first|exact⟨_,G4 rfl (B2 (fun h_=>by have:=Jg.1 h_;contradiction)),⟨_,_,rfl,o,a6⟩⟩|exact⟨_,G4 rfl (D5 (Jg.2 (Su ‹_›))),⟨_,_,rfl,o,a6⟩⟩
   refine U 6 O<|G9 a3 (Mem.le_trans P (Mem.le_trans Q (Mem.le_trans B (Mem.le_trans a0 C))))<|WK.p [2,1,1] ?_
   refine K2 1 (Y2 c) ?_ ?_
   ·exact⟨.inr ⟨rfl,Jg.2 (Su ‹_›)⟩,by omega,fun _=>rfl⟩
   (by_cases d1:r=1;exact absurd (d0 d1) ‹_›;((try dsimp only);omega))
  ·intro i m1 gh b2 hi t
   exact t.elim
  intro id i m1 gh b2 hi t
  exact t.elim
 ·intro i m1 gh b2 hi t
  exact t.elim
 intro id i m1 gh b2 hi t
 exact t.elim
theorem A4e(m:Mem)(cc:List Value)(c:Clk)(hc:Enc.rd m cc c)(hl:c.at_.length≤1000):Pure prog 72 #[.agg cc.toArray] m (fun m' v=>∃r0,v=r0∧Sl m' r0 (A3H c.at_)):=by
 obtain⟨D,r,rfl,q,b⟩:=hc
 refine have B:=q.le;have C:=b.le;F6 func72 O ntmps72 fun s=>q' 2 O<|o' O O fun t=>U 4 O<|I5 Int 3<|q' 7 O<|f' O t'<|b' 1 O O O<|l' b O<|U 4 O ?_
 refine S5 (fun(k:Nat) (vo:Value)=>c.at_.length-k) (fun k vo=>[A5 (vo) 3 ((List.range k).map (fun i=>(gt c.at_ i).Lo)),blk t 174 [D,r]]) (fun k vo=>[(3,vo),(7,r),(8,J c.at_.length),(9,J k)]) (fun k vo=>k≤c.at_.length) 0 (Value.slice none 0 0) ?_ ?_
 ·exact EF _
 rintro k vo n
 try dsimp only at n
 refine have E:=n;q' 2 O<|c' (X.lss O O) (fun u=>?_) fun u=>?_
 ·refine U 10 O<|x' k b O O fun w d=>g' d O fun x f=>?_
  obtain rfl:=f
  refine n' zeroValue23 O fun y=>w' 0 O O O<|U 4 O<|f' O t'<|b' 0 O O O<|R0 (G6 Y1 rfl rfl rfl (by decide)) (by decide) fun z=>?_
  refine G2 (G1 (k:=1) (a:=(gt c.at_ k).Lo) Y1 rfl rfl rfl rfl (by first|omega|(simp;done)|(simp;omega)) (by decide)) (by decide) (fun o=>?_)
  refine U 9 O ?_
  have l:(((List.range k).map (fun i=>(gt c.at_ i).Lo))++[(gt c.at_ k).Lo])=((List.range (k+1)).map (fun i=>(gt c.at_ i).Lo)):=Rx _ _
  rw[l]
  exact K2 (k+1) o<|by omega
 refine U 10 O ?_
 obtain rfl:k=c.at_.length:=(by omega)
 refine q' 6 O ?_
 refine E4 0 rfl rfl (by first|(simp[C7];omega)|(unfold C7;omega)) (fun A p g=>?_)
 exact A0 O O<|C2<|⟨_,rfl,g⟩
theorem Ee(h:G:=by first|(have he_:=(A4K (by omega):O3 d m_ columns ticks=_);exact⟨_,G4 rfl (B0 he_.symm),by rw[Gq (by rw[he_];omega)];exact⟨_,_,rfl,.nil,.nil⟩⟩)|(have he_:=(Pp (by omega) (fun h_=>by have h1_:=h_.1;contradiction):O3 d m_ columns ticks=_);exact⟨_,G4 rfl (B0 he_.symm),by rw[Gq (by rw[he_];omega)];exact⟨_,_,rfl,.nil,.nil⟩⟩)|(have he_:=(Pp (by omega) (fun h_=>by have h1_:=h_.2;contradiction):O3 d m_ columns ticks=_);exact⟨_,G4 rfl (B0 he_.symm),by rw[Gq (by rw[he_];omega)];exact⟨_,_,rfl,.nil,.nil⟩⟩)|(have he_:=(A2E (by omega) ⟨Su ‹_›,Su ‹_›⟩ (fun h_=>by have:=(Pj d m_).2 h_;contradiction):O3 d m_ columns ticks=_);exact⟨_,G4 rfl (B0 he_.symm),by rw[Gq (by rw[he_];omega)];exact⟨_,_,rfl,.nil,.nil⟩⟩)):G:=h
theorem A8r(m:Mem)(cd:List Value)(d:Drum)(hd:Enc.rd m cd d)(vm_:Value)(m_:List Mark)(hm_:Sl m vm_ m_)(vcolumns:Value)(columns:List Int)(hcolumns:Sl m vcolumns columns)(vticks:Value)(ticks:List Int)(hticks:Sl m vticks ticks):Pure prog 71 #[.agg cd.toArray,vm_,vcolumns,vticks] m (fun m' v=>∃r0,v= .tuple #[.agg r0.toArray,J (O3 d m_ columns ticks)]∧Enc.rd m' r0 (Nt d m_ columns ticks)):=by
 obtain⟨v1,v3,rfl,o,q⟩:=hd
 refine have a3:=o.le;have a4:=q.le;have a5:=hm_.le;have lcolumns:=hcolumns.le;have lticks:=hticks.le;F6 func71 O ntmps71 fun N=>q' 2 O<|o' O O fun P=>n' zeroValue174 O fun b8=>U 6 O<|a' 1 O O<|U 1 O<|y' (X.call call135 rfl (A4c _ _ d ⟨_,_,rfl,o,q⟩ _ _ hm_))<|U 6 O<|e' (X.neq O O) (fun Q=>?_) fun Q=>?_
 ·refine U 5 O<|WL.x (V:=Value.agg [S0,S0].toArray) (X.build zeroValue174 runUnderlying174 (ED _ underlying174) rfl rfl) (by decide) ?_
  exact U 1 O<|w' 0 O O O<|U 5 O<|E6 0 O O O O isAgg174 sizeOf174<|C2<|Ee
 refine U 6 O<|fz (x:=d) 1 O O ⟨_,_,rfl,o,q⟩ fun R a b=>have hm_:=hm_.mono a;have hcolumns:=hcolumns.mono a;have hticks:=hticks.mono a;q' 1 O<|y' (X.makeFunc (by intro x M;simp at M;subst M;all_goals exact⟨_,rfl⟩) rfl)<|U 13 O<|c' (X.call call97 rfl (A4v (p:=fun i=>¬(0≤gt columns i∧gt columns i≤(d.Rates.length:Int))) _ hcolumns (caps:=[Pt P 0]) call136 (fun i _=>B4i _ (gt columns i) b))) (fun A=>?_) fun A=>?_
 ·refine U 10 O<|WL.x (V:=Value.agg [S0,S0].toArray) (X.build zeroValue174 runUnderlying174 (ED _ underlying174) rfl rfl) (by decide) ?_
  exact w' 0 O O O<|U 5 O<|E6 0 O O O O isAgg174 sizeOf174<|C2<|Ee
 refine U 6 O<|c' (X.call call97 rfl (A4v (p:=fun i=>¬(0≤gt ticks i∧gt ticks i≤400)) _ hticks (caps:=[]) call138 (fun i _=>B0G _ (gt ticks i)))) (fun B=>?_) fun B=>?_
 ·refine U 6 O<|WL.x (V:=Value.agg [S0,S0].toArray) (X.build zeroValue174 runUnderlying174 (ED _ underlying174) rfl rfl) (by decide) ?_
  exact w' 0 O O O<|U 5 O<|E6 0 O O O O isAgg174 sizeOf174<|C2<|Ee
 refine U 7 O ?_
 have u:=B0A (d:=d) (m:=m_) (by omega)
 refine q' 1 O<|g' b O fun S r=>?_
 obtain⟨a6,a7,rfl,c,f⟩:=r
 refine have F:=c.le;have G:=f.le;U 1 O<|C0 (T.call call139 rfl (A2H _ _ d ⟨_,_,rfl,c,f⟩ _ _ hm_ u)) (by decide) fun W Y C s=>?_
 obtain⟨a8,rfl,y⟩:=s
 obtain⟨a9,b0,rfl,g,k⟩:=y
 refine have H:=g.le;have I:=k.le;C0 (T.call call140 rfl (A2T _ _ (Clk.mk (Bw d) (Mn d m_)) ⟨_,_,rfl,g,k⟩ (B3n u))) (by decide) fun a0 a1 D t=>?_
 obtain⟨b1,rfl,z⟩:=t
 obtain⟨b2,b3,rfl,l,n⟩:=z
 refine have K:=l.le;have L:=n.le;U 3 O<|n' zeroValue174 O fun a2=>w' 0 O O O<|U 7 O<|e' (Cu rfl) (fun E=>?_) fun E=>?_
 ·refine U 5 O<|WL.x (V:=Value.agg [S0,S0].toArray) (X.build zeroValue174 runUnderlying174 (ED _ underlying174) rfl rfl) (by decide) ?_
  exact w' 1 O O O<|U 5 O<|E6 1 O O O O isAgg174 sizeOf174<|C2<|Ee
 refine U 7 O<|a' 0 O O<|w' 1 O O O<|U 4 O<|E6 1 O O O O isAgg174 sizeOf174<|C2 ?_
 first|(have w:=(A9J (by omega) ⟨Su ‹_›,Su ‹_›⟩ ((Pj d m_).1 ‹_›):O3 d m_ columns ticks=_);exact⟨_,G4 rfl (B0 w.symm),by rw[QD w];unfold It;rw[←A3r];exact⟨_,_,rfl,l,n⟩⟩)
theorem A2P(m:Mem)(cd:List Value)(d:Drum)(hd:Enc.rd m cd d)(vm_:Value)(m_:List Mark)(hm_:Sl m vm_ m_):Pure prog 24 #[.agg cd.toArray,vm_] m (fun m' v=>∃r0,v= .tuple #[r0,J ((GD d m_).2)]∧Sl m' r0 ((GD d m_).1)):=by
 obtain⟨Y,v3,rfl,o,p⟩:=hd
 refine have G:=o.le;have H:=p.le;have I:=hm_.le;F6 func24 O ntmps24 fun C=>q' 2 O<|o' O O fun R=>U 6 O<|a' 0 O O<|U 1 O<|C0 (T.call call71 rfl (A8r _ _ d ⟨_,_,rfl,o,p⟩ _ _ hm_ _ _ .nil _ _ .nil)) (by decide) fun S V s k=>?_
 obtain⟨N,rfl,q⟩:=k
 obtain⟨P,Q,rfl,c,f⟩:=q
 refine have y:=c.le;have z:=f.le;U 3 O<|n' zeroValue174 O fun D=>w' 0 O O O<|U 7 O<|e' (X.neq O O) (fun t=>?_) fun t=>?_
 ·refine U 12 O<|B7 O O O<|C2 ?_
  first|exact⟨_,G4 rfl (B0 (by rw[HW (by omega)])),by rw[HW (by omega)];exact .nil⟩|exact⟨_,G4 rfl (B0 (by rw[JW b])),by rw[JW b];exact .nil⟩
 refine U 6 O ?_
 have b:O3 d m_ ([]) ([])=0:=(by omega)
 have A:=A4l b
 have g:=QD b
 have n:=A.1
 have w:=A.2.2
 have W:=B4g n w
 have K:=B3H d m_
 have L:=B4q d m_
 have M:=n.dr.1
 rw[g]at c
 rw[g]at f
 try rw[g]
 refine q' 1 O<|a' 0 O O<|C0 (T.call call72 rfl (A4e _ _ (It d m_) ⟨_,_,rfl,c,f⟩ (by omega))) (by decide) fun E F u l=>?_
 obtain⟨x,r,a⟩:=l
 rw[←r]at a
 clear r x
 refine have B:=a.le;U 5 O<|B7 O O O<|C2 ?_
 first|exact⟨_,G4 rfl (B0 (by rw[HW (by omega)])),by rw[HW (by omega)];exact a⟩|exact⟨_,G4 rfl (B0 (by rw[JW b])),by rw[JW b];exact a⟩
theorem Ll(h:G:=by first|exact G4 (Ff (by rw[Lm (by omega)]) (by rw[Lm (by omega)])) (B0 (by rw[Lm (by omega)]))|exact G4 (Ff (by rw[Lh (by omega) (by omega)]) (by rw[Lh (by omega) (by omega)])) (B0 (by rw[Lh (by omega) (by omega)]))|exact G4 (Ff (by rw[Oy (by omega) (by omega)]) (by rw[Oy (by omega) (by omega)])) (B0 (by rw[Oy (by omega) (by omega)]))):G:=h
theorem B5M(m:Mem)(cd:List Value)(d:Drum)(hd:Enc.rd m cd d)(column:Int):Exact prog 96 #[.agg cd.toArray,J column] m (.tuple #[.agg [J ((DA d column).1.Lo),J ((DA d column).1.Hi)].toArray,J ((DA d column).2)]):=by
 obtain⟨D,E,rfl,b,c⟩:=hd
 refine have y:=b.le;have z:=c.le;D4 func96 O ntmps96 fun r=>q' 2 O<|o' O O fun B=>n' zeroValue23 O fun C=>U 6 O<|a' 1 O O<|y' (X.call call172 rfl (Im _ _ d ⟨_,_,rfl,b,c⟩))<|U 6 O<|e' (X.neq O O) (fun s=>?_) fun s=>?_
 ·refine U 5 O<|WL.x (V:=Value.agg [J 0,J 0].toArray) (X.build zeroValue23 runUnderlying23 (H6 _ underlying23) rfl rfl) (by decide) ?_
  exact U 1 O<|w' 0 O O O<|U 5 O<|E6 0 O O O O isAgg23 sizeOf23<|A8<|Ll
 refine U 9 O<|f' O t'<|b' 1 O O O<|l' b O<|U 1 O<|c' (X.call call137 rfl (BC _ _ _ _)) (fun n=>?_) fun n=>?_
 ·refine U 7 O<|have A:=AF d;q' 1 O<|a' 1 O O<|C0 (T.call call175 rfl (A1U _ _ d ⟨_,_,rfl,b,c⟩ (LF (by omega)))) (by decide) fun t u o f=>?_
  obtain⟨p,l,a⟩:=f
  rw[←l]at a
  clear l p
  refine have q:=a.le;U 1 O<|Q9 (BV runUnderlying28 sizeOf23 rfl rfl a (by omega) (by omega)) (by decide) fun v g=>g' g O fun w k=>?_
  obtain rfl:=k
  exact w' 0 O O O<|U 4 O<|E6 0 O O O O isAgg23 sizeOf23<|A8<|Ll
 refine U 6 O<|WL.x (V:=Value.agg [J 0,J 0].toArray) (X.build zeroValue23 runUnderlying23 (H6 _ underlying23) rfl rfl) (by decide) ?_
 exact w' 0 O O O<|U 5 O<|E6 0 O O O O isAgg23 sizeOf23<|A8<|Ll
end Go.Proofs.T10
