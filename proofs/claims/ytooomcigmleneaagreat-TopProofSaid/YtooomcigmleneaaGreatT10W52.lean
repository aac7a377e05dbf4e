import Derived.Test.YtooomcigmleneaaGreatT10W50
set_option linter.all false
set_option maxHeartbeats 8000000
namespace Go.Proofs.T10
open Tryz Go Go.Kx Go.Proofs.S10
set_option maxRecDepth 20000
theorem B2z(m:Mem){pc:Addr}{c:Chart}(hpc:At m pc c){ix:Nat}(hmz:MapZ m ix (J 0) (fun s_:StateT=>J (AL c.L s_)))(hix:c.index.v= .map (some ix))(hch:ChN c c.L)(hz:Ii c):Pure prog 48 #[.pointer (some pc)] m (fun m' v=>∃(r:Value) (L:List (List Span)),v= .tuple #[r,J (IW c)]∧Sl m' r L):=by
 have k:=hch.ticks
 have l:(Eg c).length=L7 c:=(HM (by rw[AV];exact E' _)).trans (AV _ _)
 have n:0<L7 c:=(by unfold L7;omega)
 refine F6 func48 O ntmps48 fun p=>q' 9 O ?_
 refine C0 (T.call call49 rfl (B4Y _ hpc hmz hix hch hz)) (by decide) (fun s t g a=>?_)
 refine have q:=a.le;U 7 O<|x' 0 a O O fun u d=>s' d O fun w b=>have o:=b.le;l' b O<|c' (X.eql O O) (fun f=>?_) fun f=>?_
 ·exact U 11 O<|B7 O O O<|C2<|⟨_,[],G4 rfl (B0 (D' (by first|assumption|omega)).symm),.nil⟩
 exact U 13 O<|B7 O O O<|C2<|⟨_,_,G4 rfl (B0 (A' (by first|assumption|omega)).symm),a⟩
theorem B2s(m:Mem)(cw:List Value)(w:WeekT)(hw:Enc.rd m cw w){i:Int}{k:Nat}(hi:i=k)(hk:k<w.Sheets.length)(hok_:ShOk w (gt w.Sheets k))(hwe:AN w=0):Pure prog 46 #[.agg cw.toArray,J i,.func (.func 47) #[] [].toArray,.func (.func 48) #[] [].toArray] m (fun m' v=>∃(r:Value) (L:List (List Span)),v= .tuple #[r,J (alE w (gt w.Sheets k))]∧Sl m' r L):=by
 obtain⟨v1,v3,v5,rfl,B,C,D⟩:=hw
 have a9:=B.le
 have b0:=C.le
 have b1:=D.le
 subst hi
 refine F6 func46 O ntmps46 fun a1=>q' 2 O<|o' O O fun a2=>U 6 O<|fz (x:=w) 0 O O ⟨_,_,_,rfl,B,C,D⟩ fun a3 H c=>q' 1 O<|g' c O fun a4 y=>?_
 obtain⟨b2,b3,b4,rfl,d,g,l⟩:=y
 refine have M:=d.le;have N:=g.le;have P:=l.le;y' (X.call call39 rfl (Ka _ _ w ⟨_,_,_,rfl,d,g,l⟩))<|U 6 O<|y' (OpX.f (X.neq rfl rfl) (fun h_=>h_ hwe))<|U 8 O<|g' c O fun a5 z=>?_
 obtain⟨b5,b6,b7,rfl,n,o,p⟩:=z
 refine have Q:=n.le;have R:=o.le;have S:=p.le;U 1 O<|y' (OpX.t (X.call call106 rfl (Hr _ _ w ⟨_,_,_,rfl,n,o,p⟩ _)) (by omega))<|U 5 O<|y' (E1 call47 rfl rfl (RB _))<|U 10 O<|g' c O fun a6 A=>?_
 obtain⟨b8,b9,c0,rfl,q,s,u⟩:=A
 refine have V:=q.le;have W:=s.le;have Y:=u.le;U 1 O ?_
 refine C0 (T.call call107 rfl (HZ _ _ w ⟨_,_,_,rfl,q,s,u⟩ (k:=k) rfl hk hok_)) (by decide) (fun a7 _ I b=>?_)
 by_cases a:Dk w (gt w.Sheets k)
 ·rw[D' a]at b
  subst b
  exact U 25 O<|B7 O O O<|C2<|⟨_,[],G4 rfl (B0 (D' a).symm),.nil⟩
 rw[A' a]at b
 obtain⟨c1,a0,rfl,E,F⟩:=b
 refine U 21 O ?_
 refine C0 (Ke call48 rfl rfl (B2z _ E F rfl (JC hok_ a _) (NQ hok_.pen _))) (by decide) (fun a8 _ K b=>?_)
 obtain⟨c2,L56,rfl,G⟩:=b
 exact U 7 O<|B7 O O O<|C2<|⟨_,_,G4 rfl (B0 ((A' a).trans (B4k _ _ _).symm).symm),G⟩
theorem B0I(m:Mem)(cw:List Value)(w:WeekT)(hw:Enc.rd m cw w){i:Int}{k:Nat}(hi:i=k)(hk:k<w.Sheets.length)(hok_:ShOk w (gt w.Sheets k))(hwe:AN w=0):Pure prog 16 #[.agg cw.toArray,J i] m (fun m' v=>∃(r:Value) (L:List (List Span)),v= .tuple #[r,J (alE w (gt w.Sheets k))]∧Sl m' r L):=by
 obtain⟨N,P,Q,rfl,g,l,n⟩:=hw
 have E:=g.le
 have F:=l.le
 have G:=n.le
 subst hi
 refine F6 func16 O ntmps16 fun z=>q' 2 O<|o' O O fun A=>U 5 O<|fz (x:=w) 0 O O ⟨_,_,_,rfl,g,l,n⟩ fun B p d=>q' 1 O<|g' d O fun C f=>?_
 obtain⟨H,I,K,rfl,a,b,c⟩:=f
 refine have t:=a.le;have u:=b.le;have y:=c.le;U 1 O ?_
 refine C0 (T.call call46 rfl (B2s _ _ w ⟨_,_,_,rfl,a,b,c⟩ rfl hk hok_ hwe)) (by decide) (fun D _ q s=>?_)
 obtain⟨M,L28,rfl,o⟩:=s
 exact U 7 O<|B7 O O O<|C2<|⟨_,_,rfl,o⟩
theorem B3h(m:Mem){pc:Addr}{c:Chart}(hpc:At m pc c){ix:Nat}(hmz:MapZ m ix (J 0) (fun s_:StateT=>J (AL c.L s_)))(hix:c.index.v= .map (some ix))(hch:ChN c c.L)(hz:Ii c):Pure prog 51 #[.pointer (some pc)] m (fun m' v=>∃r,v= .tuple #[r,J 0]∧Sl m' r (AK c c.zeroes.length)):=by
 refine F6 func51 O ntmps51 fun a1=>q' 8 O<|n' zeroValue27 O fun u=>U 4 O<|I5 Int 3<|q' 2 O ?_
 refine C0 (T.call call52 rfl (A0u _ hpc hmz hix hch hz)) (by decide) (fun m2 _ Y x=>?_)
 obtain⟨s,rfl,K⟩:=x
 refine U 3 O ?_
 refine N8 (S:=Value×List Int) (G:=Nat) (ps:=[9,10]) (n:=c.zeroes.length) (A:=(trA c)) rfl call111 K (fun p:Value×List Int=>[A5 (p.1) 3 (p.2),blk u 27 [p.1]]) (fun i _ p=>p.2=AK c i) (fun _ _ _ _=>False) (Value.slice none 0 0,[]) rfl rfl (fun h=>by cases h) (fun _ _ _ _ _ h=>h) (by simp) (fun i m1 b h=>by obtain⟨_,h_,_⟩:=h;rw[show b=_ from h_];rfl) (fun B b gh=>blk B 79 ((b.getD 0 undef).cells.toList)::(fun p:Value×List Int=>[A5 (p.1) 3 (p.2),blk u 27 [p.1]]) gh) (fun B b=>(6,b.getD 1 undef)::(5,Pt B 0)::[(0,.pointer (some (pc))),(2,S0),(3,J 0),(4,Pt u 0),(7,.pointer (some (pc))),(8,.func (.func 111) #[] s.toArray)]) ?_ ?_ ?_ ?_ ?_
 ·intro lo B1 i f gh b KK N z o W
  obtain⟨vt,g,M⟩:=z
  have y:b=[.agg [vt].toArray,J (gt c.zeroes i)]:=(by have:=Sd Array.toList g;simpa using this)
  subst y
  refine qb ?_
  exact q' 2 O<|n' zeroValue79 O fun b6=>w' 0 O O O<|U 5 O<|I8 (.cons rfl (.cons rfl (.cons rfl (.cons rfl (.cons rfl (.cons rfl (.cons rfl (.cons rfl .nil)))))))) (W b6)
 ·intro lo B1 i f gh b B N hi o z d
  obtain⟨vt,g,M⟩:=z
  have y:b=[.agg [vt].toArray,J (gt c.zeroes i)]:=(by have:=Sd Array.toList g;simpa using this)
  subst y
  obtain⟨vo,V⟩:=gh
  replace d:V=AK c i:=d
  subst d
  have E:=hz.2 i hi
  have F:=Jj hch E
  have R:=Ox c i
  have a0:=hz.1
  show WK _ _ f [blk B 79 [vt],A5 (vo) 3 (AK c i),blk u 27 [vo]] [(6,J (gt c.zeroes i)),(5,Pt B 0),(0,.pointer (some (pc))),(2,S0),(3,J 0),(4,Pt u 0),(7,.pointer (some (pc))),(8,.func (.func 111) #[] s.toArray)] _
  refine qb ?_
  refine q' 3 O<|a' 0 O O ?_
  refine C0 (T.call call53 rfl (A4w _ (t:=((TrackT.mk (X4 c (gt c.zeroes i))))) ⟨_,rfl,M⟩ F)) (by decide) (fun m7 _ w x=>?_)
  subst x
  obtain⟨q9,l⟩:∃q,decide (R6 (X4 c (gt c.zeroes i)))=q:=⟨_,rfl⟩
  rw[l]
  cases q9
  ·refine U 5 O ?_
   have H:(AK c i)=(AK c (i+1)):=(B3v (Th l))
   rw[H]
   exact P6 (vo,AK c (i+1)) w (.cons _ (.refl _)) rfl
  refine U 4 O<|b' 2 O O O<|U 1 O<|R0 (G6 Y1 rfl rfl rfl (by decide)) (by decide) fun a2=>?_
  refine G2 (G1 (k:=1) (a:=gt c.zeroes i) Y1 rfl rfl rfl rfl (by first|omega|(simp;done)|(simp;omega)) (by decide)) (by decide) (fun P=>?_)
  refine E8 (k:=1) rfl (fun C=>?_)
  refine G7 (C1 (k:=2) sizeOf27 rfl rfl rfl C (J' rfl))<|U 2 O ?_
  have I:((AK c i)++[gt c.zeroes i])=(AK c (i+1)):=(B1k (Sv l))
  rw[I]
  exact P6 (P,AK c (i+1)) w (.cons _ (.refl _)) rfl
 ·intro f gh o d
  obtain⟨vo,V⟩:=gh
  replace d:V=AK c c.zeroes.length:=d
  subst d
  refine I8 (σ':=[(0,.pointer (some (pc))),(2,S0),(3,J 0),(4,Pt u 0),(7,.pointer (some (pc))),(8,.func (.func 111) #[] s.toArray)]) (.cons rfl (.cons rfl (.cons rfl (.cons rfl (.cons rfl (.cons rfl .nil)))))) ?_
  show WK _ _ f [A5 (vo) 3 (AK c c.zeroes.length),blk u 27 [vo]] [(0,.pointer (some (pc))),(2,S0),(3,J 0),(4,Pt u 0),(7,.pointer (some (pc))),(8,.func (.func 111) #[] s.toArray)] _
  refine P4<|E2<|q' 2 O<|b' 1 O O O<|U 5 O ?_
  refine E4 0 rfl rfl (by have h_:=Ox c c.zeroes.length;have h2_:=hz.1;unfold C7;omega) (fun a3 Q D=>?_)
  exact B7 O O O<|C2<|⟨_,rfl,D⟩
 ·intro i m1 gh X hi d
  exact d.elim
 intro id i m1 gh X hi d
 exact d.elim
theorem B2v(m:Mem)(cw:List Value)(w:WeekT)(hw:Enc.rd m cw w){i:Int}{k:Nat}(hi:i=k)(hk:k<w.Sheets.length)(hok_:ShOk w (gt w.Sheets k))(hwe:AN w=0):Pure prog 50 #[.agg cw.toArray,J i,.func (.func 47) #[] [].toArray,.func (.func 51) #[] [].toArray] m (fun m' v=>∃r,v= .tuple #[r,J (FD w (gt w.Sheets k))]∧Sl m' r (FG w (gt w.Sheets k))):=by
 obtain⟨v1,v3,v5,rfl,B,C,D⟩:=hw
 have a8:=B.le
 have a9:=C.le
 have b0:=D.le
 subst hi
 refine F6 func50 O ntmps50 fun a0=>q' 2 O<|o' O O fun a1=>U 6 O<|fz (x:=w) 0 O O ⟨_,_,_,rfl,B,C,D⟩ fun a2 I c=>q' 1 O<|g' c O fun a3 y=>?_
 obtain⟨b1,b2,b3,rfl,d,g,l⟩:=y
 refine have M:=d.le;have N:=g.le;have P:=l.le;y' (X.call call39 rfl (Ka _ _ w ⟨_,_,_,rfl,d,g,l⟩))<|U 6 O<|y' (OpX.f (X.neq rfl rfl) (fun h_=>h_ hwe))<|U 8 O<|g' c O fun a4 z=>?_
 obtain⟨b4,b5,b6,rfl,n,o,p⟩:=z
 refine have Q:=n.le;have R:=o.le;have S:=p.le;U 1 O<|y' (OpX.t (X.call call106 rfl (Hr _ _ w ⟨_,_,_,rfl,n,o,p⟩ _)) (by omega))<|U 5 O<|y' (E1 call47 rfl rfl (RB _))<|U 10 O<|g' c O fun a5 A=>?_
 obtain⟨b7,b8,b9,rfl,q,s,u⟩:=A
 refine have V:=q.le;have W:=s.le;have Y:=u.le;U 1 O ?_
 refine C0 (T.call call107 rfl (HZ _ _ w ⟨_,_,_,rfl,q,s,u⟩ (k:=k) rfl hk hok_)) (by decide) (fun a6 _ K b=>?_)
 by_cases a:Dk w (gt w.Sheets k)
 ·rw[D' a]at b
  subst b
  exact U 25 O<|B7 O O O<|C2<|⟨_,G4 rfl (B0 (D' a).symm),by unfold FG;rw[D' a];exact .nil⟩
 rw[A' a]at b
 obtain⟨c0,E,rfl,F,G⟩:=b
 refine U 21 O ?_
 refine C0 (Ke call51 rfl rfl (B3h _ F G rfl (JC hok_ a _) (NQ hok_.pen _))) (by decide) (fun a7 _ L b=>?_)
 obtain⟨c1,rfl,H⟩:=b
 exact U 7 O<|B7 O O O<|C2<|⟨_,G4 rfl (B0 (A' a).symm),by unfold FG;rw[A' a,←B0p _ _ E];exact H⟩
theorem B0Z(m:Mem)(cw:List Value)(w:WeekT)(hw:Enc.rd m cw w){i:Int}{k:Nat}(hi:i=k)(hk:k<w.Sheets.length)(hok_:ShOk w (gt w.Sheets k))(hwe:AN w=0):Pure prog 17 #[.agg cw.toArray,J i] m (fun m' v=>∃r,v= .tuple #[r,J (FD w (gt w.Sheets k))]∧Sl m' r (FG w (gt w.Sheets k))):=by
 obtain⟨M,N,P,rfl,g,l,n⟩:=hw
 have E:=g.le
 have F:=l.le
 have G:=n.le
 subst hi
 refine F6 func17 O ntmps17 fun z=>q' 2 O<|o' O O fun A=>U 5 O<|fz (x:=w) 0 O O ⟨_,_,_,rfl,g,l,n⟩ fun B p d=>q' 1 O<|g' d O fun C f=>?_
 obtain⟨H,I,K,rfl,a,b,c⟩:=f
 refine have t:=a.le;have u:=b.le;have y:=c.le;U 1 O ?_
 refine C0 (T.call call50 rfl (B2v _ _ w ⟨_,_,_,rfl,a,b,c⟩ rfl hk hok_ hwe)) (by decide) (fun D _ q s=>?_)
 obtain⟨L,rfl,o⟩:=s
 exact U 7 O<|B7 O O O<|C2<|⟨_,rfl,o⟩
theorem B0F(m:Mem){w:WeekT}{k:Nat}{z:Int}{pw ps pz:Addr}(hpw:At m pw w)(hps:At m ps (k:Int))(hpz:At m pz z)(hk:k<w.Sheets.length)(hzz:(gt w.Sheets k).Sheet.Pen.Zero.Lo≤z∧z≤(gt w.Sheets k).Sheet.Pen.Zero.Hi):Exact prog 54 #[.pointer (some (pw)),.pointer (some (ps)),.pointer (some (pz))] m (.bool true):=by
 refine D4 func54 O ntmps54 fun g=>q' 6 O<|B9 11 [] []<|Z O O (A.f O)<|S' (X7 hpw) O O O fun o a=>have n:=a.le;Z O O (A.i O hps)<|X' k a O O O O fun p c=>Z O O (A.f O)<|have d:=Q4 (CE c);Z O O (A.f O)<|Z O O (A.f O)<|G' (KT d) O O O fun l b=>?_
 obtain rfl:=b
 refine Z O O (A.i O hpz)<|Z O O (OpX.t (X.call call55 rfl (IU _ _ ((((gt w.Sheets k).Sheet).Pen).Zero) rfl _)) hzz)<|U' 1 O<|V' 2 O<|A0 O O<|A8 ?_
 rfl
theorem B0Y(m:Mem){pc:Addr}{c:Chart}(hpc:At m pc c){ix:Nat}(hmz:MapZ m ix (J 0) (fun s_:StateT=>J (AL c.L s_)))(hix:c.index.v= .map (some ix))(hch:ChN c c.L){pz:Addr}{z:Int}(hpz:At m pz z)(hz: -200≤z∧z≤200):Pure prog 57 #[.pointer (some pc),.pointer (some pz)] m (fun m' v=>∃r,v= .tuple #[.agg [r].toArray,J 0]∧Sl m' r (X4 c z)):=by
 refine F6 func57 O ntmps57 fun f=>q' 2 O<|n' zeroValue79 O fun g=>U 6 O<|i' hpz O ?_
 refine C0 (T.call call58 rfl (A1L _ hpc hmz hix hch hz)) (by decide) (fun k _ d a=>?_)
 obtain⟨_,rfl,l,rfl,b⟩:=a
 exact w' 0 O O O<|U 4 O<|E6 0 O O O O isAgg79 sizeOf79<|C2<|⟨_,rfl,b⟩
theorem B3e(m:Mem)(cw:List Value)(w:WeekT)(hw:Enc.rd m cw w){i:Int}{k:Nat}(hi:i=k)(hk:k<w.Sheets.length)(hok_:ShOk w (gt w.Sheets k))(hwe:AN w=0){z:Int}{pw ps pz:Addr}(hpw:At m pw w)(hps:At m ps (k:Int))(hpz:At m pz z)(hzz:(gt w.Sheets k).Sheet.Pen.Zero.Lo≤z∧z≤(gt w.Sheets k).Sheet.Pen.Zero.Hi)(hz_: -200≤z∧z≤200):Pure prog 56 #[.agg cw.toArray,J i,.func (.func 54) #[] [.pointer (some (pw)),.pointer (some (ps)),.pointer (some (pz))].toArray,.func (.func 57) #[] [.pointer (some (pz))].toArray] m (fun m' v=>∃r,v= .tuple #[.agg [r].toArray,J (FD w (gt w.Sheets k))]∧Sl m' r (Gc w (gt w.Sheets k) z)):=by
 obtain⟨v1,v3,v5,rfl,E,F,G⟩:=hw
 have b0:=E.le
 have b1:=F.le
 have b2:=G.le
 subst hi
 refine F6 func56 O ntmps56 fun a1=>q' 2 O<|o' O O fun a2=>n' zeroValue79 O fun a3=>U 5 O<|fz (x:=w) 1 O O ⟨_,_,_,rfl,E,F,G⟩ fun a4 b d=>have hpw:=hpw.mono b;have hps:=hps.mono b;have hpz:=hpz.mono b;q' 1 O<|g' d O fun a5 B=>?_
 obtain⟨b3,b4,b5,rfl,g,l,n⟩:=B
 refine have M:=g.le;have N:=l.le;have P:=n.le;y' (X.call call39 rfl (Ka _ _ w ⟨_,_,_,rfl,g,l,n⟩))<|U 6 O<|y' (OpX.f (X.neq rfl rfl) (fun h_=>h_ hwe))<|U 8 O<|g' d O fun a6 C=>?_
 obtain⟨b6,b7,b8,rfl,o,p,q⟩:=C
 refine have Q:=o.le;have R:=p.le;have S:=q.le;U 1 O<|y' (OpX.t (X.call call106 rfl (Hr _ _ w ⟨_,_,_,rfl,o,p,q⟩ _)) (by omega))<|U 5 O<|y' (E1 call54 rfl rfl (B0F _ hpw hps hpz hk hzz))<|U 10 O<|g' d O fun a7 D=>?_
 obtain⟨b9,c0,c1,rfl,s,u,y⟩:=D
 refine have V:=s.le;have W:=u.le;have Y:=y.le;U 1 O ?_
 refine C0 (T.call call107 rfl (HZ _ _ w ⟨_,_,_,rfl,s,u,y⟩ (k:=k) rfl hk hok_)) (by decide) (fun a8 _ A c=>?_)
 replace hpz:=hpz.mono A
 by_cases a:Dk w (gt w.Sheets k)
 ·rw[D' a]at c
  subst c
  exact U 17 O<|a' 0 O O<|U 1 O<|w' 0 O O O<|U 5 O<|E6 0 O O O O isAgg79 sizeOf79<|C2<|⟨_,G4 rfl (B0 (D' a).symm),by unfold Gc;rw[D' a];exact .nil⟩
 rw[A' a]at c
 obtain⟨c2,a0,rfl,H,I⟩:=c
 refine U 21 O ?_
 refine C0 (Ke call57 rfl rfl (B0Y _ H I rfl (JC hok_ a _) hpz hz_)) (by decide) (fun a9 _ L c=>?_)
 obtain⟨c3,rfl,K⟩:=c
 exact U 2 O<|w' 0 O O O<|U 4 O<|E6 0 O O O O isAgg79 sizeOf79<|C2<|⟨_,G4 rfl (B0 (A' a).symm),by unfold Gc;rw[A' a];exact K⟩
theorem B1v(m:Mem)(cw:List Value)(w:WeekT)(hw:Enc.rd m cw w){i:Int}{k:Nat}(hi:i=k)(hk:k<w.Sheets.length)(hok_:ShOk w (gt w.Sheets k))(hwe:AN w=0){z:Int}(hzz:(gt w.Sheets k).Sheet.Pen.Zero.Lo≤z∧z≤(gt w.Sheets k).Sheet.Pen.Zero.Hi):Pure prog 18 #[.agg cw.toArray,J i,J z] m (fun m' v=>∃r,v= .tuple #[.agg [r].toArray,J (FD w (gt w.Sheets k))]∧Sl m' r (Gc w (gt w.Sheets k) z)):=by
 obtain⟨v1,v3,v5,rfl,q,s,t⟩:=hw
 have V:=q.le
 have W:=s.le
 have Y:=t.le
 subst hi
 have p:=hok_.pen
 unfold M9 at p
 have D: -200≤z∧z≤200:=(by omega)
 refine F6 func18 O ntmps18 fun H=>q' 2 O<|o' O O fun I=>o' O O fun K=>o' O O fun L=>n' zeroValue79 O fun M=>U 4 O<|fz (x:=w) 3 O O ⟨_,_,_,rfl,q,s,t⟩ fun N A a=>fz (x:=(k:Int)) 2 O O O fun P l b=>have a:=a.mono l;fz (x:=z) 1 O O O fun Q c n=>have a:=a.mono c;have b:=b.mono c;q' 1 O<|y' (X.makeFunc (by intro x y;simp at y;rcases y with rfl|rfl|rfl;all_goals exact⟨_,rfl⟩) rfl)<|U 5 O<|g' a O fun R o=>?_
 obtain⟨a0,a1,a2,rfl,d,f,g⟩:=o
 refine have E:=d.le;have F:=f.le;have G:=g.le;i' b O<|U 1 O<|y' (X.makeFunc (by intro x y;simp at y;subst y;all_goals exact⟨_,rfl⟩) rfl) ?_
 refine C0 (T.call call56 rfl (B3e _ _ w ⟨_,_,_,rfl,d,f,g⟩ rfl hk hok_ hwe a b n hzz D)) (by decide) (fun S _ B C=>?_)
 obtain⟨a3,rfl,u⟩:=C
 exact U 2 O<|w' 0 O O O<|U 4 O<|E6 0 O O O O isAgg79 sizeOf79<|C2<|⟨_,rfl,u⟩
theorem IH{G:Prop}(h:G:=by first|exact⟨by omega,by omega,fun h_=>by omega⟩|exact⟨by omega,by omega,fun h_ j hj=>by rcases Sc.1 hj with h|h;exact hnone h_ j h;subst h;omega⟩):G:=h
theorem A0D(m:Mem)(cs:List Value)(s:Span)(hs:Enc.rd m cs s)(vmay:Value)(may:List Span)(hmay:Sl m vmay may)(vl:Value)(l:List Span)(hl:Sl m vl l)(hh:Nn s may l)(hb:((-1000000≤s.Lo∧s.Lo≤1000000)∧(-1000000≤s.Hi∧s.Hi≤1000000)))(hmv:CR may)(hlv:CR l):Exact prog 62 #[.agg cs.toArray,vmay,vl] m (.bool true):=by
 obtain rfl:=hs
 refine have lmay:=hmay.le;have ll:=hl.le;have q:=DM hmv;have r:=DM hlv;D4 func62 O ntmps62 fun G=>q' 2 O<|o' O O fun d=>U 10 O ?_
 refine J4 (fun(i:Nat)=>may.length-i) (fun i=>[blk d 23 [J s.Lo,J s.Hi]]) (fun i=>[(1,vmay),(2,vl),(3,Pt d 0),(7,J i)]) (fun i=>i≤may.length) 0 ?_ ?_
 ·exact EF _
 rintro i C
 refine have hi:=C;have E:=fun p:i<may.length=>q i p;q' 5 O<|l' hmay O<|c' (X.lss O O) (fun H=>?_) fun H=>?_
 ·refine U 8 O<|B9 19 [17,18] [18]<|Z O O (A.f O)<|Z O O (A.b 0 O O O)<|U' 2 O<|X' i hmay O O O O fun Q u=>Z O O (A.f O)<|Z O O (A.i O (P5 u))<|Z O O (EG rfl rfl)<|Z O O (A.f O)<|Z O O (A.b 0 O O O)<|U' 2 O<|X' i hmay O O O O fun R v=>Z O O (A.f O)<|Z O O (A.i O (J7 v))<|Z O O (Hw rfl rfl)<|DW.x (V:=Value.agg [J (max s.Lo ((gt may i).Lo)),J (min s.Hi ((gt may i).Hi))].toArray) O O (X.build zeroValue23 runUnderlying23 (H6 _ underlying23) rfl rfl) (by decide) ?_
  refine N3 O O O (T.alloc zeroValue23 rfl) (by decide) fun c=>W' 0 O O O O O<|V' 3 O<|f' O t'<|b' 0 O O O<|U 4 O ?_
  refine J4 (fun(a:Int)=>((min s.Hi (gt may i).Hi)+1-a).toNat) (fun a=>[blk c 23 [J (max s.Lo ((gt may i).Lo)),J (min s.Hi ((gt may i).Hi))],blk d 23 [J s.Lo,J s.Hi]]) (fun a=>[(1,vmay),(2,vl),(3,Pt d 0),(7,J i),(8,Pt c 0),(9,J a)]) (fun a=>(max s.Lo (gt may i).Lo)≤a∧a≤2000000) (max s.Lo ((gt may i).Lo)) ?_ ?_
  ·exact⟨Si _,by omega⟩
  rintro a ⟨M,N⟩
  refine q' 4 O<|f' O t'<|b' 0 O O O<|c' (X.leq O O) (fun w=>?_) fun w=>?_
  ·refine U 19 O ?_
   refine S5 (fun(k:Nat) (nx:Int)=>l.length-k) (fun k nx=>[blk c 23 [J (max s.Lo ((gt may i).Lo)),J (min s.Hi ((gt may i).Hi))],blk d 23 [J s.Lo,J s.Hi]]) (fun k nx=>[(1,vmay),(2,vl),(3,Pt d 0),(7,J i),(8,Pt c 0),(9,J a),(10,J nx),(11,J k)]) (fun k nx=>k≤l.length∧(a≤nx∧nx≤2000000)∧(nx=a→∀j,j<k→¬((gt l j).Lo≤a∧a≤(gt l j).Hi))) 0 a ?_ ?_
   ·exact⟨EF _,⟨Si _,by omega⟩,fun _ j D=>absurd D (R' _)⟩
   rintro k nx ⟨S,P,hnone⟩
   refine have F:=fun p:k<l.length=>r k p;q' 5 O<|l' hl O<|c' (X.lss O O) (fun y=>?_) fun y=>?_
   ·refine U 11 O<|x' k hl O O fun I g=>f' O t'<|i' (P5 g) O<|U 1 O<|c' (X.leq O O) (fun z=>?_) fun z=>?_
    ·refine U 8 O<|x' k hl O O fun K n=>U 1 O<|f' O t'<|U 1 O<|i' (J7 n) O<|U 1 O<|c' (X.leq O O) (fun B=>?_) fun B=>?_
     ·exact U 7 O<|x' k hl O O fun L o=>f' O t'<|i' (J7 o) O<|U 11 O<|K2 (k+1) (((gt l k).Hi)+1)<|IH
     exact U 13 O<|K2 (k+1) nx<|IH
    exact U 21 O<|K2 (k+1) nx<|IH
   refine U 10 O ?_
   have t:¬nx=a:=(fun p=>A8v (i:=i) (a:=a) hh (by omega) (by omega) (by omega) (fun j D=>hnone p j (by omega)))
   exact q' 3 O<|y' (OpX.f (X.eql rfl rfl) t)<|U 11 O<|I6 nx<|⟨by omega,by omega⟩
  exact U 15 O<|I6 (i+1)<|by omega
 refine U 14 O<|A0 O O<|A8 ?_
 rfl
theorem A4H(m:Mem)(ct:List Value)(t:TrackT)(ht:Enc.rd m ct t)(cp:List Value)(p:ProofT)(hp:Enc.rd m cp p)(hN:NothP t.Stages p.Sets):Exact prog 20 #[.agg ct.toArray,.agg cp.toArray] m (.bool true):=by
 obtain⟨v1,rfl,n8⟩:=ht
 have hl3:=n8.le
 obtain⟨v4,rfl,d8⟩:=hp
 refine have hl6:=d8.le;have o4:=hN.len;D4 func20 O ntmps20 fun wld=>q' 2 O<|o' O O fun b7=>o' O O fun b8=>U 5 O<|fz (x:=t) 1 O O ⟨_,rfl,n8⟩ fun m9 f7 c=>have d8:=d8.mono f7;fz (x:=p) 0 O O ⟨_,rfl,d8⟩ fun m12 f8 a=>have c:=c.mono f8;q' 1 O<|f' O t'<|s' (G0 c) O fun v16 e0=>have hl18:=e0.le;l' e0 O<|y' (OpX.f (X.eql rfl rfl) (by omega))<|U 2 O<|f' O t'<|U 1 O<|s' (L3 a) O fun v20 e1=>have hl22:=e1.le;U 1 O<|l' e1 O<|U 1 O<|f' O t'<|U 1 O<|s' (G0 c) O fun v24 e2=>have hl26:=e2.le;U 1 O<|l' e2 O<|U 1 O<|y' (OpX.f (X.neq rfl rfl) (fun B=>B (by omega)))<|U 13 O ?_
 refine J4 (fun(k:Nat)=>t.Stages.length-k) (fun k=>[]) (fun k=>[(2,Pt b7 0),(3,Pt b8 0),(5,J k)]) (fun k=>k≤t.Stages.length) 0 ?_ ?_
 ·exact EF _
 rintro k f5
 try dsimp only at f5
 refine have hk:=f5;have o5:=fun B:k<t.Stages.length=>hN.row k B;q' 4 O<|f' O t'<|s' (G0 c) O fun v29 e3=>have hl31:=e3.le;l' e3 O<|c' (X.lss O O) (fun o0=>?_) fun o0=>?_
 ·refine U 9 O<|B9 13 [] []<|Z O O (A.f O)<|S' (L3 a) O O O fun v34 e4=>have hl36:=e4.le;U' 1 O<|X' k e4 O O O O fun p37 k6=>S' k6 O O O fun v39 e5=>have hl41:=e5.le;Z O O (A.l O e5)<|Z O O (A.f O)<|S' (G0 c) O O O fun v43 e6=>have hl45:=e6.le;U' 1 O<|X' k e6 O O O O fun p46 k7=>S' k7 O O O fun v48 e7=>have hl50:=e7.le;Z O O (A.l O e7)<|Z O O (OpX.f (X.neq rfl rfl) (fun B=>B (by omega)))<|V' 10 O ?_
  refine J4 (fun(n:Nat)=>(gt t.Stages k).length-n) (fun n=>[]) (fun n=>[(2,Pt b7 0),(3,Pt b8 0),(5,J k),(6,J n)]) (fun n=>n≤(gt t.Stages k).length) 0 ?_ ?_
  ·exact EF _
  rintro n f6
  try dsimp only at f6
  refine have hn:=f6;q' 4 O<|f' O t'<|s' (G0 c) O fun v53 e8=>have hl55:=e8.le;U 1 O<|x' k e8 O O fun p56 k8=>s' k8 O fun v58 e9=>have hl60:=e9.le;l' e9 O<|c' (X.lss O O) (fun o1=>?_) fun o1=>?_
  ·refine U 9 O<|f' O t'<|s' (G0 c) O fun v63 f0=>have hl65:=f0.le;U 1 O<|x' k f0 O O fun p66 k9=>s' k9 O fun v68 f1=>have hl70:=f1.le;U 1 O<|x' n f1 O O fun p71 l0=>g' l0 O fun c73 l1=>?_
   obtain⟨d6,d7,rfl,z,g⟩:=l1
   refine have hl79:=z.le;have hl80:=g.le;n' zeroValue152 O fun r=>w' 0 O O O<|U 4 O ?_
   have s:n<(gt t.Stages k).length:=(by omega)
   have y:k<t.Stages.length:=(by omega)
   have j7:k=0→∀i,i<(gt (gt t.Stages k) n).Allowed.length→Nn (gt (gt (gt t.Stages k) n).Allowed i) (gt (gt t.Stages k) n).Allowed (gt (gt p.Sets k) n):=fun B=>by subst B;exact hN.first n (by omega)
   have f3:=(AA hN.trk y).2 n s
   have d1:=hN.sets k y n (by omega)
   have f4:=DM d1
   have hsn_:=BJ d1
   have n5:=DM f3.1
   have d2:k+1=t.Stages.length→(gt (gt p.Sets k) n).length=0:=fun B=>(by have h1_:=hN.last n (by rw[show t.Stages.length-1=k by omega];exact s);rw[show t.Stages.length-1=k by omega]at h1_;exact h1_)
   refine q' 5 O ?_
   refine J4 (fun(i:Nat)=>(gt (gt t.Stages k) n).Allowed.length-i) (fun i=>[blk r 152 [d6,d7]]) (fun i=>[(2,Pt b7 0),(3,Pt b8 0),(5,J k),(6,J n),(7,Pt r 0),(8,J i)]) (fun i=>i≤(gt (gt t.Stages k) n).Allowed.length) 0 ?_ ?_
   ·exact EF _
   rintro i n9
   refine have hi:=n9;q' 4 O<|f' O t'<|b' 0 O O O<|l' z O<|c' (X.lss O O) (fun o2=>?_) fun o2=>?_
   ·refine U 4 O<|c' (X.eql O O) (fun o3=>?_) fun o3=>?_
    ·refine U 9 O<|B9 17 [] []<|Z O O (A.f O)<|Z O O (A.b 0 O O O)<|U' 1 O<|X' i z O O O O fun p85 l2=>G' l2 O O O fun c87 l3=>?_
     obtain rfl:=l3
     exact Z O O (A.f O)<|Z O O (A.b 0 O O O)<|Z O O (A.f O)<|S' (L3 a) O O O fun v90 hs91=>have hl92:=hs91.le;U' 1 O<|X' k hs91 O O O O fun p93 l4=>S' l4 O O O fun v95 f2=>have hl97:=f2.le;U' 1 O<|X' n f2 O O O O fun p98 l5=>S' l5 O O O fun t3 C=>have o6:=C.le;Z O O (X.call call62 rfl (A0D _ _ (gt ((gt (gt t.Stages k) n).Allowed) i) rfl _ _ z _ _ C (j7 (by omega) i (by omega)) (n5 i (by omega) |> fun B=>by omega) f3.1 d1))<|U' 1 O<|V' 11 O<|I6 (i+1)<|by omega
    refine U 14 O<|f' O t'<|s' (G0 c) O fun t4 hs105=>have o7:=hs105.le;l' hs105 O<|c' (X.eql O O) (fun l6=>?_) fun l6=>?_
    ·exact U 6 O<|f' O t'<|s' (L3 a) O fun t5 D=>have o8:=D.le;U 1 O<|x' k D O O fun t6 f9=>s' f9 O fun t7 E=>have o9:=E.le;U 1 O<|x' n E O O fun t8 g0=>s' g0 O fun t9 F=>have p0:=F.le;l' F O<|y' (OpX.f (X.gtr rfl rfl) (by have B:=d2 (by omega);omega))<|U 15 O<|I6 (n+1)<|by omega
    refine U 6 O ?_
    have d:k+1<t.Stages.length:=(by omega)
    refine have u:=hN.step k d n s;have d3:=(hN.trk.1.2 k y).2 n s;have d9:=hN.row (k+1) d;q' 5 O ?_
    refine J4 (fun(j:Nat)=>(gt (gt t.Stages k) n).Next.length-j) (fun j=>[blk r 152 [d6,d7]]) (fun j=>[(2,Pt b7 0),(3,Pt b8 0),(5,J k),(6,J n),(7,Pt r 0),(9,J j),(70,J k),(71,.bool false)]) (fun j=>j≤(gt (gt t.Stages k) n).Next.length) 0 ?_ ?_
    ·exact EF _
    rintro j k2
    refine have hj:=k2;q' 4 O<|f' O t'<|b' 0 O O O<|l' g O<|c' (X.lss O O) (fun l7=>?_) fun l7=>?_
    ·refine U 8 O ?_
     have o:=u j (by omega)
     have n6:=o.1
     have d4:=(d3.2.2 j (by omega)).2
     unfold Ai at d4
     have d5:(gt (gt (gt t.Stages k) n).Next j).To.toNat<(gt t.Stages (k+1)).length:=(by omega)
     have v:=(AA hN.trk d).2 _ d5
     have w:=hN.sets (k+1) d (gt (gt (gt t.Stages k) n).Next j).To.toNat (by omega)
     refine q' 1 O<|f' O t'<|b' 0 O O O<|U 1 O<|x' j g O O fun u0 g1=>f' O t'<|i' (Fd g1) O<|U 7 O<|y' (OpX.f (X.lss rfl rfl) (by omega))<|U 4 O<|f' O t'<|U 1 O<|s' (G0 c) O fun l8 G=>have p1:=G.le;U 5 O<|Q9 (T9 (k+1) runUnderlying77 sizeOf149 rfl rfl G (by omega) (by omega)) (by decide) fun l9 g2=>U 1 O<|s' g2 O fun m0 H=>have p2:=H.le;U 1 O<|l' H O<|U 1 O<|y' (OpX.f (X.geq rfl rfl) (by omega))<|U 5 O<|f' O t'<|U 1 O<|s' (L3 a) O fun m1 I=>have p3:=I.le;U 5 O<|Q9 (T9 (k+1) runUnderlying82 sizeOf67 rfl rfl I (by omega) (by omega)) (by decide) fun m2 g3=>U 1 O<|s' g3 O fun m3 K=>have p4:=K.le;U 1 O<|l' K O<|U 1 O<|y' (OpX.f (X.geq rfl rfl) (by omega)) ?_
     refine U 12 O ?_
     refine J4 (fun(q:Nat)=>(gt (gt p.Sets k) n).length-q) (fun q=>[blk r 152 [d6,d7]]) (fun q=>[(2,Pt b7 0),(3,Pt b8 0),(5,J k),(6,J n),(7,Pt r 0),(9,J j),(10,J ((gt ((gt (gt t.Stages k) n).Next) j).To)),(11,J q),(70,J k),(71,.bool false),(124,J ((gt ((gt (gt t.Stages k) n).Next) j).To)),(125,.pointer (some (((⟨b7,0,none⟩:Addr)).add 0))),(126,l8),(127,J k),(128,J (↑k+1)),(129,.pointer (some (l9))),(130,m0),(131,J (↑(gt t.Stages (k+1)).length)),(132,.bool false),(135,J ((gt ((gt (gt t.Stages k) n).Next) j).To)),(136,.pointer (some (((⟨b8,0,none⟩:Addr)).add 0))),(137,m1),(138,J k),(139,J (↑k+1)),(140,.pointer (some (m2))),(141,m3),(142,J (↑(gt p.Sets (k+1)).length)),(143,.bool false)]) (fun q=>q≤(gt (gt p.Sets k) n).length) 0 ?_ ?_
     ·exact EF _
     rintro q k3
     refine have hq:=k3;q' 4 O<|f' O t'<|s' (L3 a) O fun u1 L=>have p5:=L.le;U 1 O<|x' k L O O fun u2 g4=>s' g4 O fun u3 M=>have p6:=M.le;U 1 O<|x' n M O O fun u4 g5=>s' g5 O fun u5 N=>have p7:=N.le;l' N O<|c' (X.lss O O) (fun m4=>?_) fun m4=>?_
     ·refine U 8 O ?_
      have n7:=f4 q (by omega)
      refine B9 43 [41,42] [42]<|Z O O (A.f O)<|S' (L3 a) O O O fun u6 P=>have p8:=P.le;U' 1 O<|X' k P O O O O fun u7 g6=>S' g6 O O O fun u8 Q=>have p9:=Q.le;U' 1 O<|X' n Q O O O O fun u9 g7=>S' g7 O O O fun v0 R=>have q0:=R.le;U' 1 O<|X' q R O O O O fun v2 g8=>Z O O (A.f O)<|Z O O (A.i O (P5 g8))<|Z O O (A.f O)<|Z O O (A.b 0 O O O)<|U' 1 O<|X' j g O O O O fun v3 g9=>Z O O (A.f O)<|have j8:=P5 (DE g9);Z O O (A.f O)<|Z O O (A.i O j8)<|U' 1 O<|Z O O (A.f O)<|S' (L3 a) O O O fun v5 S=>have q1:=S.le;U' 1 O<|X' k S O O O O fun v6 h0=>S' h0 O O O fun v7 W=>have q2:=W.le;U' 1 O<|X' n W O O O O fun v8 h1=>S' h1 O O O fun v9 Y=>?_
      refine have q3:=Y.le;U' 1 O<|X' q Y O O O O fun w0 h2=>Z O O (A.f O)<|Z O O (A.i O (J7 h2))<|Z O O (A.f O)<|Z O O (A.b 0 O O O)<|U' 1 O<|X' j g O O O O fun w1 h3=>Z O O (A.f O)<|have j9:=J7 (DE h3);Z O O (A.f O)<|Z O O (A.i O j9)<|U' 1 O<|DW.x (V:=Value.agg [J (((gt (gt (gt p.Sets k) n) q).Lo)+(((gt ((gt (gt t.Stages k) n).Next) j).Change).Lo)),J (((gt (gt (gt p.Sets k) n) q).Hi)+(((gt ((gt (gt t.Stages k) n).Next) j).Change).Hi))].toArray) O O (X.build zeroValue23 runUnderlying23 (H6 _ underlying23) rfl rfl) (by decide) ?_
      exact N3 O O O (T.alloc zeroValue23 rfl) (by decide) fun w2=>W' 0 O O O O O<|V' 2 O<|B9 22 [] []<|Z O O (L9 0 O O O)<|Z O O (A.f O)<|S' (G0 c) O O O fun w3 a0=>have q4:=a0.le;U' 2 O<|J0 O O (T9 (k+1) runUnderlying77 sizeOf149 rfl rfl a0 (by omega) (by omega)) (by decide) fun w4 h4=>S' h4 O O O fun w5 a1=>have q5:=a1.le;U' 1 O<|J0 O O (BV runUnderlying149 sizeOf152 rfl rfl a1 (by omega) (by omega)) (by decide) fun w6 h5=>Z O O (A.f O)<|S' (Fj h5) O O O fun w7 a2=>have q6:=a2.le;Z O O (A.f O)<|S' (L3 a) O O O fun w8 a3=>have q7:=a3.le;U' 2 O<|J0 O O (T9 (k+1) runUnderlying82 sizeOf67 rfl rfl a3 (by omega) (by omega)) (by decide) fun w9 h6=>S' h6 O O O fun x0 a4=>have q8:=a4.le;U' 1 O<|J0 O O (BV runUnderlying67 sizeOf28 rfl rfl a4 (by omega) (by omega)) (by decide) fun x1 h7=>S' h7 O O O fun x2 a5=>have q9:=a5.le;Z O O (X.call call62 rfl (A0D _ _ ((Span.mk (((gt (gt (gt p.Sets k) n) q).Lo)+(((gt ((gt (gt t.Stages k) n).Next) j).Change).Lo)) (((gt (gt (gt p.Sets k) n) q).Hi)+(((gt ((gt (gt t.Stages k) n).Next) j).Change).Hi)))) rfl _ _ a2 _ _ a5 (o.2 q (by omega)) (by first|omega|((try dsimp only);omega)) v.1 w))<|U' 1 O<|V' 11 O<|I6 (q+1)<|by omega
     exact U 15 O<|I6 (j+1)<|by omega
    exact U 15 O<|I6 (n+1)<|by omega
   refine U 17 O<|f' O t'<|s' (G0 c) O fun x3 a6=>have r0:=a6.le;l' a6 O<|c' (X.eql O O) (fun m5=>?_) fun m5=>?_
   ·exact U 6 O<|f' O t'<|s' (L3 a) O fun x4 a7=>have r1:=a7.le;U 1 O<|x' k a7 O O fun x5 h8=>s' h8 O fun x6 a8=>have r2:=a8.le;U 1 O<|x' n a8 O O fun x7 h9=>s' h9 O fun x8 a9=>have r3:=a9.le;l' a9 O<|y' (OpX.f (X.gtr rfl rfl) (by have B:=d2 (by omega);omega))<|U 15 O<|I6 (n+1)<|by omega
   refine U 6 O ?_
   have d:k+1<t.Stages.length:=(by omega)
   refine have u:=hN.step k d n s;have d3:=(hN.trk.1.2 k y).2 n s;have d9:=hN.row (k+1) d;q' 5 O ?_
   refine J4 (fun(j:Nat)=>(gt (gt t.Stages k) n).Next.length-j) (fun j=>[blk r 152 [d6,d7]]) (fun j=>[(2,Pt b7 0),(3,Pt b8 0),(5,J k),(6,J n),(7,Pt r 0),(9,J j)]) (fun j=>j≤(gt (gt t.Stages k) n).Next.length) 0 ?_ ?_
   ·exact EF _
   rintro j k4
   refine have hj:=k4;q' 4 O<|f' O t'<|b' 0 O O O<|l' g O<|c' (X.lss O O) (fun m6=>?_) fun m6=>?_
   ·refine U 8 O ?_
    have o:=u j (by omega)
    have n6:=o.1
    have d4:=(d3.2.2 j (by omega)).2
    unfold Ai at d4
    have d5:(gt (gt (gt t.Stages k) n).Next j).To.toNat<(gt t.Stages (k+1)).length:=(by omega)
    have v:=(AA hN.trk d).2 _ d5
    have w:=hN.sets (k+1) d (gt (gt (gt t.Stages k) n).Next j).To.toNat (by omega)
    refine q' 1 O<|f' O t'<|b' 0 O O O<|U 1 O<|x' j g O O fun x9 i0=>f' O t'<|i' (Fd i0) O<|U 7 O<|y' (OpX.f (X.lss rfl rfl) (by omega))<|U 4 O<|f' O t'<|U 1 O<|s' (G0 c) O fun m7 b0=>have r4:=b0.le;U 5 O<|Q9 (T9 (k+1) runUnderlying77 sizeOf149 rfl rfl b0 (by omega) (by omega)) (by decide) fun m8 i1=>U 1 O<|s' i1 O fun n0 b1=>have r5:=b1.le;U 1 O<|l' b1 O<|U 1 O<|y' (OpX.f (X.geq rfl rfl) (by omega))<|U 5 O<|f' O t'<|U 1 O<|s' (L3 a) O fun n1 b2=>have r6:=b2.le;U 5 O<|Q9 (T9 (k+1) runUnderlying82 sizeOf67 rfl rfl b2 (by omega) (by omega)) (by decide) fun n2 i2=>U 1 O<|s' i2 O fun n3 b3=>have r7:=b3.le;U 1 O<|l' b3 O<|U 1 O<|y' (OpX.f (X.geq rfl rfl) (by omega)) ?_
    refine U 12 O ?_
    refine J4 (fun(q:Nat)=>(gt (gt p.Sets k) n).length-q) (fun q=>[blk r 152 [d6,d7]]) (fun q=>[(2,Pt b7 0),(3,Pt b8 0),(5,J k),(6,J n),(7,Pt r 0),(9,J j),(10,J ((gt ((gt (gt t.Stages k) n).Next) j).To)),(11,J q),(124,J ((gt ((gt (gt t.Stages k) n).Next) j).To)),(125,.pointer (some (((⟨b7,0,none⟩:Addr)).add 0))),(126,m7),(127,J k),(128,J (↑k+1)),(129,.pointer (some (m8))),(130,n0),(131,J (↑(gt t.Stages (k+1)).length)),(132,.bool false),(135,J ((gt ((gt (gt t.Stages k) n).Next) j).To)),(136,.pointer (some (((⟨b8,0,none⟩:Addr)).add 0))),(137,n1),(138,J k),(139,J (↑k+1)),(140,.pointer (some (n2))),(141,n3),(142,J (↑(gt p.Sets (k+1)).length)),(143,.bool false)]) (fun q=>q≤(gt (gt p.Sets k) n).length) 0 ?_ ?_
    ·exact EF _
    rintro q k5
    refine have hq:=k5;q' 4 O<|f' O t'<|s' (L3 a) O fun y0 b4=>have r8:=b4.le;U 1 O<|x' k b4 O O fun y1 i3=>s' i3 O fun y2 b5=>have r9:=b5.le;U 1 O<|x' n b5 O O fun y3 i4=>s' i4 O fun y4 b6=>have s0:=b6.le;l' b6 O<|c' (X.lss O O) (fun n4=>?_) fun n4=>?_
    ·refine U 8 O ?_
     have n7:=f4 q (by omega)
     refine B9 43 [41,42] [42]<|Z O O (A.f O)<|S' (L3 a) O O O fun y5 b9=>have s1:=b9.le;U' 1 O<|X' k b9 O O O O fun y6 i5=>S' i5 O O O fun y7 c0=>have s2:=c0.le;U' 1 O<|X' n c0 O O O O fun y8 i6=>S' i6 O O O fun y9 c1=>have s3:=c1.le;U' 1 O<|X' q c1 O O O O fun z0 i7=>Z O O (A.f O)<|Z O O (A.i O (P5 i7))<|Z O O (A.f O)<|Z O O (A.b 0 O O O)<|U' 1 O<|X' j g O O O O fun z1 i8=>Z O O (A.f O)<|have k0:=P5 (DE i8);Z O O (A.f O)<|Z O O (A.i O k0)<|U' 1 O<|Z O O (A.f O)<|S' (L3 a) O O O fun z2 c2=>have s4:=c2.le;U' 1 O<|X' k c2 O O O O fun z3 i9=>S' i9 O O O fun z4 c3=>have s5:=c3.le;U' 1 O<|X' n c3 O O O O fun z5 j0=>S' j0 O O O fun z6 c4=>?_
     refine have s6:=c4.le;U' 1 O<|X' q c4 O O O O fun z7 j1=>Z O O (A.f O)<|Z O O (A.i O (J7 j1))<|Z O O (A.f O)<|Z O O (A.b 0 O O O)<|U' 1 O<|X' j g O O O O fun z8 j2=>Z O O (A.f O)<|have k1:=J7 (DE j2);Z O O (A.f O)<|Z O O (A.i O k1)<|U' 1 O<|DW.x (V:=Value.agg [J (((gt (gt (gt p.Sets k) n) q).Lo)+(((gt ((gt (gt t.Stages k) n).Next) j).Change).Lo)),J (((gt (gt (gt p.Sets k) n) q).Hi)+(((gt ((gt (gt t.Stages k) n).Next) j).Change).Hi))].toArray) O O (X.build zeroValue23 runUnderlying23 (H6 _ underlying23) rfl rfl) (by decide) ?_
     exact N3 O O O (T.alloc zeroValue23 rfl) (by decide) fun z9=>W' 0 O O O O O<|V' 2 O<|B9 22 [] []<|Z O O (L9 0 O O O)<|Z O O (A.f O)<|S' (G0 c) O O O fun v335 c5=>have s7:=c5.le;U' 2 O<|J0 O O (T9 (k+1) runUnderlying77 sizeOf149 rfl rfl c5 (by omega) (by omega)) (by decide) fun p338 j3=>S' j3 O O O fun v340 c6=>have s8:=c6.le;U' 1 O<|J0 O O (BV runUnderlying149 sizeOf152 rfl rfl c6 (by omega) (by omega)) (by decide) fun p343 j4=>Z O O (A.f O)<|S' (Fj j4) O O O fun v346 c7=>have s9:=c7.le;Z O O (A.f O)<|S' (L3 a) O O O fun v350 c8=>have t0:=c8.le;U' 2 O<|J0 O O (T9 (k+1) runUnderlying82 sizeOf67 rfl rfl c8 (by omega) (by omega)) (by decide) fun p353 j5=>S' j5 O O O fun v355 c9=>have t1:=c9.le;U' 1 O<|J0 O O (BV runUnderlying67 sizeOf28 rfl rfl c9 (by omega) (by omega)) (by decide) fun p358 j6=>S' j6 O O O fun v360 d0=>have t2:=d0.le;Z O O (X.call call62 rfl (A0D _ _ ((Span.mk (((gt (gt (gt p.Sets k) n) q).Lo)+(((gt ((gt (gt t.Stages k) n).Next) j).Change).Lo)) (((gt (gt (gt p.Sets k) n) q).Hi)+(((gt ((gt (gt t.Stages k) n).Next) j).Change).Hi)))) rfl _ _ c7 _ _ d0 (o.2 q (by omega)) (by first|omega|((try dsimp only);omega)) v.1 w))<|U' 1 O<|V' 11 O<|I6 (q+1)<|by omega
    exact U 15 O<|I6 (j+1)<|by omega
   exact U 15 O<|I6 (n+1)<|by omega
  exact U 15 O<|I6 (k+1)<|by omega
 refine U 14 O<|A0 O O<|A8 ?_
 rfl
end Go.Proofs.T10
