import Derived.Test.YtooomcigmleneaaGreatKyP
set_option linter.all false
namespace Go.Kx
open Go
variable{B:Base}{Y:List (List Value)}{b bytes:Nat}{e e':TypeId}{i j k:Nat}{m:Mem}{t:TypeId}{u v:Value}{vs:List Value}{w:World}{ws:List Value}{x:Operand}{xs:List Value}{y:Operand}{α:Type}{L M:List (List α)}
def multi(L:List Ent):Ent where
 ids:=B8 L
 holds w:=(∀e∈L,e.holds w)∧(B8 L).Nodup
 loc w w' h hw:=⟨fun e a=>e.loc w w' (fun b hb=>h b (BO a hb)) (hw.1 e a),hw.2⟩
 bound w hw b hb:=by
  obtain⟨e,a,c⟩:=EN.1 hb
  exact e.bound w (hw.1 e a) b c
theorem Kv(A C L:List Ent):(B8 (A++multi L::C)).Perm (B8 (L++(A++C))):=by
 rw[E5,E5,E5]
 show(B8 A++(B8 L++B8 C)).Perm (B8 L++(B8 A++B8 C))
 rw[←Se,←Se]
 exact TL _ Tv
theorem St.unmulti{A C L:List Ent}(h:St B m (A++multi L::C) w):St B m (L++(A++C)) w:=by
 have c:=Kv A C L
 refine{h with own:=?_,ids:=fun b a=>h.ids b (c.mem_iff.2 a),avoid:=fun b a=>h.avoid b (c.mem_iff.2 a),nodup:=c.nodup_iff.1 h.nodup}
 intro e d
 rcases Sa.1 d with h1|h1
 ·exact(h.own (multi L) (by simp)).1 e h1
 ·refine h.own e ?_
  rcases Sa.1 h1 with h2|h2
  ·exact Sk _ h2
  ·exact Sx _ (Sg _ h2)
theorem St.multi{B:Base}{m:Mem}{A C L:List Ent}{w:World}(h:St B m (L++(A++C)) w):St B m (A++Kx.multi L::C) w:=by
 have c:=Kv A C L
 refine{h with own:=?_,ids:=fun b a=>h.ids b (c.mem_iff.1 a),avoid:=fun b a=>h.avoid b (c.mem_iff.1 a),nodup:=c.nodup_iff.2 h.nodup}
 intro e f
 rcases Sa.1 f with h1|h1
 ·exact h.own e (Sx _ (Sk _ h1))
 ·rcases Sn.1 h1 with rfl|h2
  ·refine⟨fun x d=>h.own x (Sk _ d),?_⟩
   have:=h.nodup
   rw[E5]at this
   exact(Ss.1 this).1
  ·exact h.own e (Sx _ (Sx _ h2))
theorem B1L [Inhabited α](L:List α)(h:k<L.length):L.set k (gt L k)=L:=by
 apply SG
 intro j
 rw[SR]
 split
 ·rename_i h1;subst h1;first|rw[D' h,S9 h]|exact(S9 h).symm
 ·rfl
def T6{β:Type}(f:Value→β→Ent):List Value→List β→List Ent
 |v::vs,x::M=>f v x::T6 f vs M
 |_,_=>[]
theorem AI{β:Type}[Inhabited β]{f:Value→β→Ent}:∀{vs:List Value} {M:List β} {i:Nat},vs.length=M.length→i<M.length→A7 (T6 f vs M) i=some (f (gt vs i) (gt M i))
 | [],[],_,_,h=>by simp at h
 | [],_::_,_,h,_=>by simp at h
 |_::_,[],_,h,_=>by simp at h
 |v::vs,L::M,0,_,_=>by simp[T6,A7,Bq]
 |v::vs,L::M,i+1,h,hi=>by
  simp only[T6,A7,Ak]
  exact AI (by simpa using h) (by simpa using hi)
theorem Jl{β:Type}{f:Value→β→Ent}{U:Value}{x':β}:∀{vs:List Value} {M:List β} {i:Nat},vs.length=M.length→i<M.length→H4 (T6 f vs M) i (f U x')=T6 f (vs.set i U) (M.set i x')
 | [],[],_,_,h=>by simp at h
 | [],_::_,_,h,_=>by simp at h
 |_::_,[],_,h,_=>by simp at h
 |v::vs,L::M,0,_,_=>by simp[T6,H4]
 |v::vs,L::M,i+1,h,hi=>by
  simp only[T6,H4,TE]
  rw[Jl (by simpa using h) (by simpa using hi)]
theorem ND{β:Type}{f:Value→β→Ent}{v:Value}{x:β}:∀{vs:List Value} {M:List β},vs.length=M.length→T6 f (vs++[v]) (M++[x])=T6 f vs M++[f v x]
 | [],[],_=>rfl
 | [],_::_,h=>by simp at h
 |_::_,[],h=>by simp at h
 |u::vs,K::M,h=>by simp only[SM,T6];rw[ND (by simpa using h)]
theorem BW:∀{L R:List Ent} {i:Nat} {e:Ent},A7 L i=some e→A7 (L++R) i=some e
 | [],_,_,_,h=>by cases h
 |x::L,R,0,_,h=>h
 |x::L,R,i+1,_,h=>BW (L:=L) (R:=R) (i:=i) h
theorem Lu:∀{L R:List Ent} {i:Nat} {e x:Ent},A7 L i=some e→H4 (L++R) i x=H4 L i x++R
 | [],_,_,_,_,h=>by cases h
 |y::L,R,0,_,_,h=>rfl
 |y::L,R,i+1,e,x,h=>by
  show y::H4 (L++R) i x=y::(H4 L i x++R)
  rw[Lu (e:=e) (L:=L) h]
def mF{α:Type}[Flat α](e:TypeId)(ws:List Value)(M:List (List α)):Ent:=multi (T6 (fun v L=>A5 v e L) ws M)
def mV(e:TypeId)(vs:List Value)(Y:List (List Value)):Ent:=multi (T6 (fun v xs=>row v e 1 xs.length xs) vs Y)
section
variable{P:Program}{B:Base}{m:Mem}{H:List Ent}{σ:B6}{ty:TypeId}{op:Op}
theorem OpX.multi{L:List Ent}{j:Nat}{V:Value}(hH:A7 H j=some (Kx.multi L))(h:∀R,OpX P B m (L++R) σ op ty V):OpX P B m H σ op ty V:=by
 obtain⟨A,C,rfl,_,_⟩:=N0 hH
 exact⟨(h []).sel,(h []).defd,fun w a=>(h (A++C)).run w a.unmulti⟩
theorem OpTo.multi{L:List Ent}{j:Nat}{F:Value→List Ent}(hH:A7 H j=some (Kx.multi L))(h:∀R,OpTo P B m (L++R) σ op ty (fun v m' H'=>m'=m∧H'=F v++R)):
 OpTo P B m H σ op ty (fun v m' H'=>m'=m∧H'=H4 H j (Kx.multi (F v))):=by
 obtain⟨A,C,rfl,l,_⟩:=N0 hH
 refine⟨(h []).sel,(h []).defd,fun M B w b o a next Q c d k=>(h (A++C)).run M B w b.unmulti o a next Q c d fun v m' H' w' f g=>?_⟩
 obtain⟨n,p⟩:=f
 subst n p
 exact k v _ _ w' ⟨rfl,rfl⟩ (by rw[l];exact g.multi)
theorem Ou{i:Int}(hu:∀w,(underlying t).run P w= .ok (.slice e) w)(hz:∀w,(sizeOf e).run P w= .ok 1 w)
 (hx:ev σ x=some (gt vs k)) (hy:ev σ y=some (.int .i64 i)) (hH:A7 H j=some (mV e' vs Y)) (hl:vs.length=Y.length) (hk:k<Y.length) (h0:0≤i) (h1:i<(gt Y k).length):
 OpX P B m H σ (.indexAddr t x y) ty (.pointer (some (rp (gt vs k) i.toNat))):=
 .multi hH fun _=>K0 hu hz hx hy (BW (AI (f:=fun v xs=>row v e' 1 xs.length xs) hl hk)) h0 h1
theorem A0K(ha:∀w,(isAgg t).run P w= .ok false w)
 (hx:ev σ x=some (.pointer (some (rp (gt vs k) i)))) (hH:A7 H j=some (mV e' vs Y)) (hl:vs.length=Y.length) (hk:k<Y.length) (hi:i<(gt Y k).length):
 OpX P B m H σ (.load t x) ty (gt (gt Y k) i):=
 .multi hH fun _=>M3 ha hx (BW (AI (f:=fun v xs=>row v e' 1 xs.length xs) hl hk)) (S9 hi)
theorem B0J(hu:∀w,(underlying t).run P w= .ok (.slice e) w)(hx:ev σ x=some (gt vs k))(hH:A7 H j=some (mV e' vs Y))(hl:vs.length=Y.length)(hk:k<Y.length):
 OpX P B m H σ (.call (Call.mk (.builtin .len) #[x] #[t])) ty (.int .i64 (gt Y k).length):=
 .multi hH fun _=>U5 hu hx (BW (AI (f:=fun v xs=>row v e' 1 xs.length xs) hl hk))
theorem A6g(hz:∀w,(sizeOf t).run P w= .ok 1 w)(hx:ev σ x=some (.pointer (some (rp (gt vs k) i))))(hy:ev σ y=some u)(hc:u.cells=#[u])(h1:u.oneCell'=true)
 (hH:A7 H j=some (mV e' vs Y)) (hl:vs.length=Y.length) (hk:k<Y.length) (hi:i<(gt Y k).length):
 OpTo P B m H σ (.store t x y) ty (fun _ m' H'=>m'=m∧H'=H4 H j (mV e' vs (Y.set k ((gt Y k).set i u)))):=by
 have c:=Jl (f:=fun v xs=>row v e' 1 xs.length xs) (U:=gt vs k) (x':=(gt Y k).set i u) hl hk
 rw[B1L _ (by omega)]at c
 have l:∀R,OpTo P B m (T6 (fun v xs=>row v e' 1 xs.length xs) vs Y++R) σ (.store t x y) ty (fun _ m' H'=>m'=m∧H'=T6 (fun v xs=>row v e' 1 xs.length xs) vs (Y.set k ((gt Y k).set i u))++R):=fun R=>by
  have d:=AI (f:=fun v xs=>row v e' 1 xs.length xs) hl hk
  refine .ofRun trivial (D1 rfl hx hy) fun w g o b _=>?_
  obtain⟨w',p,a⟩:=Cd (P:=P) (off:=i) (us:=[u]) g (BW d) (O' _) (by show i+1≤_;exact hi) (by simpa using h1)
  refine⟨undef,w',.inr ⟨by simp[execOp,b,A6 hx,A6 hy,Instr.storeAt,Instr.sureAddr,storeVar,hz,hc,p],rfl⟩,m,_,⟨rfl,rfl⟩,?_⟩
  have n:(gt Y k).take i++[u]++(gt Y k).drop (i+[u].length)=(gt Y k).set i u:=by rw[Ua,D' hi];simp
  rw[n,Lu d]at a
  rw[←c,I'];exact a
 exact OpTo.multi hH l
theorem Cf [Flat α][Enc α][FlatEnc α](hu:∀(m:Mem) (vs:List Value) (x:α),Enc.rd m vs x→vs=Flat.enc x){s:Operand}{z:Value}(hS:SlT P t e (Flat.n α) bytes z){L:List α}
 (hs:ev σ s=some (gt ws i)) (hx:ev σ x=some u) (hL:Sl m u L) (hH:A7 H j=some (mF e ws M)) (hl:ws.length=M.length) (hi:i<M.length)
 (hb:((gt M i).length+L.length)*bytes≤140737488355328) (h63:(gt M i).length+L.length≤9223372036854775807):
 OpTo P B m H σ (.call (Call.mk (.builtin .append) #[s,x] #[t,t])) ty (fun U m' H'=>m'=m∧H'=H4 H j (mF e (ws.set i U) (M.set i (gt M i++L)))):=by
 have c:=AI (f:=fun v (L:List α)=>A5 v e L) hl hi
 have l:∀R,OpTo P B m (T6 (fun v (L:List α)=>A5 v e L) ws M++R) σ (.call (Call.mk (.builtin .append) #[s,x] #[t,t])) ty (fun U m' H'=>m'=m∧H'=T6 (fun v L=>A5 v e L) (ws.set i U) (M.set i (gt M i++L))++R):=fun R=>by
  have b:=X5 (P:=P) (B:=B) (m:=m) (ty:=ty) hu hS hs hx hL (BW (R:=R) c) hb h63
  refine⟨b.sel,b.defd,fun M' B w d o ac next Q g k k'=>b.run M' B w d o ac next Q g k fun U m' H' w' h a=>k' U m' H' w' ⟨h.1,?_⟩ a⟩
  rw[h.2,Lu c,Jl (f:=fun v (L:List α)=>A5 v e L) hl hi]
 exact OpTo.multi hH l
end
theorem Qj{T:TypeId}{cs:List Value}(h:(blk b T cs).holds w):Cells (Mem.all w) ⟨b,0,none⟩ cs:=
 ⟨rfl,cs.toArray,T,(0,0),by simp only[blk]at h;simp[Mem.all,h],fun j v a=>by simpa using a⟩
theorem St.blkAt{H:List Ent}[Enc α]{T:TypeId}{cs:List Value}{x:α}(hw:St B m H w)(hH:A7 H k=some (blk b T cs))(hx:Enc.rd (Mem.all w) cs x):At (Mem.all w) ⟨b,0,none⟩ x:=
 ⟨cs,hx,Qj (C3 hw hH)⟩
def RdM{α:Type}[Enc α](m:Mem)(Y:List (List Value))(S:List (List α)):Prop:=Y.length=S.length∧∀k,k<S.length→RdL m (gt Y k) (gt S k)
theorem RdM.mono{α:Type}[Enc α]{m m':Mem}{Y:List (List Value)}{S:List (List α)}(h:RdM m Y S)(hm:m.le m'):RdM m' Y S:=⟨h.1,fun k a=>(h.2 k a).mono hm⟩
theorem RdM.nil [Enc α]:RdM (α:=α) m [] []:=⟨rfl,fun _ a=>absurd a (R' _)⟩
theorem HI [Inhabited α](r:List α)(x:α)(k:Nat)(hk:k<(r++[x]).length):gt (r++[x]) k=if k<r.length then gt r k else x:=by
 simp only[gt,List.getD,Ue]
 split
 ·rfl
 ·have:k-r.length=0:=by simp at hk;omega
  rw[this];rfl
theorem RdM.snoc [Enc α]{S:List (List α)}{L:List α}(h:RdM m Y S)(hx:RdL m xs L):RdM m (Y++[xs]) (S++[L]):=by
 refine⟨by simp[h.1],fun k a=>?_⟩
 rw[HI _ _ _ (by simpa[h.1]using a),HI _ _ _ a,h.1]
 split
 ·exact h.2 k ‹_›
 ·exact hx
theorem RdM.set{α:Type}[Enc α]{m:Mem}{Y:List (List Value)}{S:List (List α)}{k:Nat}{xs:List Value}{L:List α}(h:RdM m Y S)(hx:RdL m xs L):RdM m (Y.set k xs) (S.set k L):=by
 refine⟨by simp[h.1],fun q a=>?_⟩
 rw[I']at a
 have b:gt (Y.set k xs) q=if k=q then xs else gt Y q:=by
  simp only[gt,List.getD,SR];rw[h.1]
  split
  ·rw[D' (by omega)];rfl
  ·rfl
 have c:gt (S.set k L) q=if k=q then L else gt S q:=by
  simp only[gt,List.getD,SR]
  split
  ·rw[D' (by omega)];rfl
  ·rfl
 rw[b,c]
 split
 ·exact hx
 ·exact h.2 q a
theorem RdL.slAt [Enc α](h:RdL m xs L)(hi:i<L.length):Sl m (gt xs i) (gt L i):=by
 obtain⟨vs,c,d⟩:=h.2 i _ (S9 hi)
 obtain⟨v,rfl,f⟩:=c
 have a:=d 0 v rfl
 have b:gt xs i=v:=by
  have:xs[i]?=some v:=by simpa[show Enc.sz (List α)=1 from rfl]using a
  simp[gt,List.getD,this]
 rw[b];exact f
theorem RdL.len1 [Enc α](h:RdL m xs L):xs.length=L.length:=by
 have:=h.1;rwa [show Enc.sz (List α)=1 from rfl,SD]at this
theorem RdL.setS [Enc α](h:RdL m xs L)(hi:i<L.length){l:List α}(hv:Sl m v l):RdL m (xs.set i v) (L.set i l):=by
 have b:=h.set (i:=i) (us:=[v]) (a:=l) ⟨v,rfl,hv⟩ hi
 have d:=h.len1
 rw[show Enc.sz (List α)=1 from rfl,SD]at b
 have c:xs.take i++[v]++xs.drop (i+[v].length)=xs.set i v:=by rw[Ua,D' (by omega)];simp
 rwa [c]at b
theorem PE [Enc α]{l:List α}(hv:Sl m v l)(h:RdL m xs L):RdL m (v::xs) (l::L):=by
 refine⟨by have:=h.len1;show(v::xs).length=(l::L).length*1;simp[this],fun i x b=>?_⟩
 cases i with
 |zero=>
  obtain rfl:l=x:=by simpa using b
  exact⟨[v],⟨v,rfl,hv⟩,fun j u a=>by cases j with
   |zero=>simpa using a
   |succ j=>simp at a⟩
 |succ i=>
  obtain⟨vs,c,d⟩:=h.2 i x (by simpa using b)
  refine⟨vs,c,fun j u a=>?_⟩
  have:=d j u a
  rw[show Enc.sz (List α)=1 from rfl]at this⊢
  rw[show(i+1)*1+j=(i*1+j)+1 by omega]
  simpa using this
section
variable{N:Nat}{B:Base}{m:Mem}{H:List Ent}{σ:B6}{K:Act→World→Prop}
theorem WK.unmulti{L:List Ent}{j:Nat}(hH:A7 H j=some (multi L))(k:WK N B m (L++X3 H j) σ K):WK N B m H σ K:=by
 obtain⟨A,C,rfl,_,d⟩:=N0 hH
 rw[d]at k
 intro Ds w f a g
 refine k Ds w ?_ a g
 have b:St B m (A++Kx.multi L::(C++marks Ds)) w:=by simpa using f
 have c:=b.unmulti
 simpa using c
theorem WK.multi{L R:List Ent}(k:WK N B m (Kx.multi L::R) σ K):WK N B m (L++R) σ K:=fun Ds w b a c=>by
 refine k Ds w ?_ a c
 have d:St B m (L++([]++(R++marks Ds))) w:=by simpa using b
 have f:=d.multi
 simpa using f
theorem GR{α:Type}[Flat α][Enc α][FlatEnc α]{e:TypeId}{A:List Ent}(hX:B.X=[]):∀{ws:List Value} {M:List (List α)} {m:Mem},ws.length=M.length→(∀L∈M,L.length≤C7)→
 (∀m',m.le m'→RdL m' ws M→WK N B m' A σ K)→WK N B m (T6 (fun v L=>A5 v e L) ws M++A) σ K
 | [],[],m,_,_,k=>k m (Mem.le_refl _) RdL.nil
 | [],_::_,_,h,_,_=>by simp at h
 |_::_,[],_,h,_,_=>by simp at h
 |v::ws,L::M,m,h,hb,k=>E4 0 hX rfl (hb L (Sf ..)) fun m1 h1 h2=>
  GR hX (ws:=ws) (M:=M) (by simpa using h) (fun L' b=>hb L' (Sg _ b)) fun c a d=>k c (Mem.le_trans h1 a) (PE (h2.mono a) d)
theorem Kl [Flat α][Enc α][FlatEnc α](j:Nat)(hX:B.X=[])(hH:A7 H j=some (mF e ws M))(hl:ws.length=M.length)(hb:∀L∈M,L.length≤C7)
 (k:∀m',m.le m'→RdL m' ws M→WK N B m' (X3 H j) σ K):WK N B m H σ K:=WK.unmulti hH (GR hX hl hb k)
theorem GY{α:Type}[Enc α]{e:TypeId}{A:List Ent}(hX:B.X=[]):∀{vs:List Value} {Y:List (List Value)} {S:List (List (List α))} {m:Mem},vs.length=Y.length→Y.length=S.length→(∀k,k<S.length→RdL m (gt Y k) (gt S k))→(∀L∈S,L.length≤C7)→
 (∀m',m.le m'→RdL m' vs S→WK N B m' A σ K)→WK N B m (T6 (fun v xs=>row v e 1 xs.length xs) vs Y++A) σ K
 | [],[],[],m,_,_,_,_,k=>k m (Mem.le_refl _) RdL.nil
 | [],_::_,_,_,h,_,_,_,_=>by simp at h
 |_::_,[],_,_,h,_,_,_,_=>by simp at h
 |_,[],_::_,_,_,h,_,_,_=>by simp at h
 |_,_::_,[],_,_,h,_,_,_=>by simp at h
 |v::vs,y::Y,L::S,m,h,hs,hr,hb,k=>by
  have h0:RdL m y L:=hr 0 (O' _)
  have o:y.length=L.length:=h0.len1
  refine M7 (α:=List α) (v:=v) (e:=e) (xs:=y) (L:=L) 0 hX (by rw[←o];rfl) h0 (hb L (Sf ..)) fun p a d=>?_
  refine GY hX (vs:=vs) (Y:=Y) (S:=S) (by simpa using h) (by simpa using hs) (fun k f=>?_) (fun L' g=>hb L' (Sg _ g)) fun l b n=>k l (Mem.le_trans a b) (PE (d.mono b) n)
  have c:=hr (k+1) (by simpa using f)
  rw[Ak,Ak]at c
  exact c.mono a
theorem GA [Enc α]{S:List (List (List α))}(j:Nat)(hX:B.X=[])(hH:A7 H j=some (mV e vs Y))(hl:vs.length=Y.length)(hr:RdM m Y S)(hb:∀L∈S,L.length≤C7)
 (k:∀m',m.le m'→RdL m' vs S→WK N B m' (X3 H j) σ K):WK N B m H σ K:=WK.unmulti hH (GY hX hl hr.1 hr.2 hb k)
theorem EV{α:Type}[Flat α](e:TypeId):∀n,B8 (T6 (fun v (L:List α)=>A5 v e L) (List.replicate n (.slice none 0 0)) (List.replicate n []))=[]
 |0=>rfl
 |n+1=>by
  rw[SZ,SZ]
  show(A5 (.slice none 0 0) e ([]:List α)).ids++B8 _=[]
  rw[EV e n];rfl
theorem A6p(α:Type)[Flat α](e:TypeId)(n:Nat)(k:WK N B m (mF e (List.replicate n (.slice none 0 0)) (List.replicate n ([]:List α))::H) σ K):WK N B m H σ K:=fun Ds w d a f=>by
 refine k Ds w (d.push (Ext.refl w) (mF e (List.replicate n (.slice none 0 0)) (List.replicate n ([]:List α))) ⟨fun x c=>?_,?_⟩ ?_ ?_) a f
 ·clear k d f
  induction n with
  |zero=>cases c
  |succ n ih=>
   rw[SZ,SZ]at c
   rcases Sn.1 c with rfl|c
   ·exact⟨by simp[flat],.inl ⟨rfl,rfl⟩⟩
   ·exact ih c
 ·rw[EV];exact List.nodup_nil
 ·show∀b∈B8 _,_;rw[EV];intro b g;cases g
 ·show(B8 _).Nodup;rw[EV];exact List.nodup_nil
theorem A5Y{va:Value}{n:Nat}{R:List Ent}(hn:n=xs.length)(hl:vs.length=Y.length)(k:WK N B m (mV e (vs++[va]) (Y++[xs])::R) σ K):WK N B m (row va e 1 n xs::mV e vs Y::R) σ K:=by
 subst hn
 refine WK.unmulti (j:=1) (L:=T6 (fun v xs=>row v e 1 xs.length xs) vs Y) rfl ?_
 unfold mV at k
 rw[ND (f:=fun v xs=>row v e 1 xs.length xs) hl]at k
 intro Ds w b a c
 refine(WK.multi (R:=R) k) Ds w (b.perm ?_) a c
 refine TL _ ?_
 simp only[X3,Se,Uu]
 exact .refl _
end
section
variable{P:Program}{B:Base}{m:Mem}{H:List Ent}{σ:B6}{ty:TypeId}
theorem PQ(n:Nat)(hS:SlT P t e 1 bytes (.slice none 0 0))(hx:ev σ x=some (.int .i64 (n:Int)))(hy:ev σ y=some (.int .i64 (n:Int)))(hb:(bytes:Int)*n≤140737488355328)(hby:0<bytes):
 OpTo P B m H σ (.makeSlice t x y) ty (fun v m' H'=>m'=m∧H'=row v e 1 (List.replicate n (Value.slice none 0 0)).length (List.replicate n (.slice none 0 0))::H):=by
 have h:=GO (α:=RawV) (P:=P) (B:=B) (m:=m) (H:=H) (σ:=σ) (ty:=ty) n (a:=RawV.mk (.slice none 0 0) rfl) hS rfl hx hy hb hby
 refine⟨h.sel,h.defd,fun M B w d o a next Q f g k=>h.run M B w d o a next Q f g fun v m' H' w' b c=>k v m' H' w' ⟨b.1,?_⟩ c⟩
 rw[b.2]
 unfold A5
 rw[Tf,Tf]
 congr 2
 clear h hx hy hb k b c
 induction n with
 |zero=>rfl
 |succ n ih=>rw[SZ,SZ];show _::flat _=_;rw[ih]
end
theorem A0Q{p:Addr}{x:RawV}(h:At m p x):Cells m p [x.v]:=by
 obtain⟨vs,h,a⟩:=h
 obtain rfl:=h
 exact a
section
variable{N:Nat}{B:Base}{m:Mem}{H:List Ent}{σ:B6}{P:Program}
theorem A9S{fn:Func}{R:Ending→World→Prop}{t T':Nat}(k:Nat)(hres:fn.results=#[.cell t T'])(hv:lk σ t=some (.pointer (some ⟨b,0,none⟩)))
 (hH:A7 H k=some (blk b T' [v])) (hg:∀w,(isAgg T').run P w= .ok false w) (hR:∀w,St B m H w→R (.returned v) w):WK N B m H σ (N2 P fn R .ret):=
 DC (.inl rfl) (fun w d a f=>by
  obtain⟨c,g⟩:=A9I d f hv hH hg
  rw[SH]at c
  simp[results,hres,c,asAddr,g]) hR
end
section
variable{P:Program}{B:Base}{m:Mem}{H:List Ent}{σ:B6}{ty:TypeId}
theorem Y9(hz:∀w,(sizeOf t).run P w= .ok 1 w)(hx:ev σ x=some (.pointer (some (rp v i))))(hy:ev σ y=some u)(h1:u.oneCell'=true)
 (hH:A7 H k=some (row v e 1 xs.length xs)) (hi:i<xs.length):OpTo P B m H σ (.store t x y) ty (fun _ m' H'=>m'=m∧H'=H4 H k (row v e 1 (xs.set i u).length (xs.set i u))):=
 .ofRun trivial (D1 rfl hx hy) fun w b o a _=>by
  obtain⟨w',c,d⟩:=IZ (P:=P) (u:=u) (off:=i) b hH hi h1
  refine⟨undef,w',.inr ⟨by simp[execOp,a,A6 hx,A6 hy,Instr.storeAt,Instr.sureAddr,storeVar,hz,D7 h1,c],rfl⟩,m,_,⟨rfl,rfl⟩,?_⟩
  rw[I'];exact d
theorem B1n{z:Value}{parts:List (Nat×Operand)}(hS:SlT P t e 1 bytes z)(hv:MZ σ parts=some (IQ 0 [u]))(h1:u.oneCell'=true):
 OpTo P B m H σ (.buildSlice t 1 parts.toArray) ty (fun v m' H'=>m'=m∧H'=row v e 1 [u].length [u]::H):=
 Ra (α:=RawV) (L:=[⟨u,h1⟩]) (vals:=[u]) hS hv (by simp[D7 h1,flat,Flat.enc]) (by intro v hv;obtain rfl:=Sp.1 hv;rw[D7 h1];rfl) rfl rfl (by rfl)
end
section
variable{N:Nat}{B:Base}{m:Mem}{H:List Ent}{σ:B6}{K:Act→World→Prop}
theorem B4J{va:Value}{n:Nat}{R:List Ent}(hn:n=xs.length)(k:WK N B m (mV e [va] [xs]::R) σ K):WK N B m (row va e 1 n xs::R) σ K:=by
 subst hn
 exact WK.multi (L:=T6 (fun v xs=>row v e 1 xs.length xs) [va] [xs]) (R:=R) k
end
theorem Fs [Inhabited α]{L:List α}{v:α}(h:i<L.length):gt (L.set i v) i=v:=by
 simp[gt,List.getD,h]
section
variable{P:Program}{B:Base}{m:Mem}{H:List Ent}{σ:B6}{ty:TypeId}
theorem Dc [Flat α]{op:Op}{T:Value→Mem→List Ent→Prop}(hH:A7 H j=some (mF e ws M))(hl:ws.length=M.length)(hi:i<M.length)(hv:gt ws i=v)(hs:notSel op)(hd:Kx.defd σ op)
 (h:v.oneCell'=true→OpTo P B m H σ op ty T):OpTo P B m H σ op ty T:=
 ⟨hs,hd,fun M' B' w a=>(h (by
  have b:(mF e ws M).holds w:=C3 a hH
  obtain⟨A,C,d,_,_⟩:=Z1 (AI (f:=fun v (L:List α)=>A5 v e L) hl hi)
  have c:(A5 (gt ws i) e (gt M i)).holds w:=b.1 _ (by rw[d];simp)
  rw[←hv]
  rcases c.2 with⟨h2,_⟩|⟨g,cap,cur,h2,_⟩ <;> rw[h2] <;> rfl)).run M' B' w a⟩
end
theorem A9t{H:List Ent}{R:Mem→Prop}(hw:St B m H w)
 (h:∀K:Act→World→Prop,(∀m',m.le m'→R m'→WK 0 B m' [] [] K)→WK 0 B m H [] K):∃m',m.le m'∧St B m' [] w∧R m':=by
 refine h (fun _ w'=>∃m',m.le m'∧St B m' [] w'∧R m') (fun m' c d Ds w' b a g=>⟨m',c,b.weaken (by simp),d⟩) [] w (by simpa[marks]using hw) ⟨#[],[]⟩ ⟨rfl,rfl,fun t v f=>by simp[lk]at f⟩
theorem A6I{P:Program}{f:FuncId}{args:Array Value}[Enc α]{S:List (List (List α))}
 (h:Mut P f args m [] (fun m' Es u=>∃vs Y,Es=[mV e vs Y,row u e' 1 vs.length vs]∧vs.length=S.length∧Y.length=S.length∧RdM m' Y S)) (hb:S.length≤C7∧∀L∈S,L.length≤C7):Pure P f args m (fun m' u=>Sl m' u S):=by
 intro w r
 refine(h w ⟨rfl,rfl,rfl,E' _,fun _ _ _=>rfl,r,Mem.le_refl _,fun _ _=>rfl,by simp,by simp[B8],by simp[B8],by simp[B8]⟩).mono ?_
 rintro t w' ⟨u,m',Es,rfl,n,vs,Y,rfl,o,x,p⟩
 have d:St ⟨w,[],m⟩ m' [mV e vs Y,row u e' 1 vs.length vs] w':=n
 obtain⟨a,g,b,q⟩:=A9t (R:=fun a=>Sl a u S) d (fun K k=>GA 0 rfl rfl (by omega) p hb.2 fun s g l=>
  M7 (α:=List (List α)) (v:=u) (e:=e') (xs:=vs) (L:=S) 0 rfl (by rw[←o];rfl) l hb.1 fun a b c=>k a (Mem.le_trans g b) c)
 exact⟨u,a,[],rfl,b,q⟩
section
variable{α:Type}[Inhabited α]
def Ck(xs:List α):Nat→List α
 |0=>xs
 |i+1=>((Ck xs i).set i (gt (Ck xs i) (xs.length-1-i))).set (xs.length-1-i) (gt (Ck xs i) i)
theorem Ea(xs:List α):∀i,(Ck xs i).length=xs.length
 |0=>rfl
 |i+1=>by rw[Ck,I',I',Ea xs i]
theorem A1f(L:List α){q:Nat}(v:α)(hq:q<L.length):gt (L.set i v) q=if i=q then v else gt L q:=by
 simp only[gt,List.getD,SR]
 split
 ·rw[D' (by omega)];rfl
 ·rfl
theorem RO(xs:List α):∀i,i+i≤xs.length→∀q,q<xs.length→gt (Ck xs i) q=if q<i∨xs.length-i≤q then gt xs (xs.length-1-q)else gt xs q
 |0,_,q,hq=>by rw[Ck,A' (by omega)]
 |i+1,hi,q,hq=>by
  have ih:=RO xs i (by omega)
  have a:=ih i (by omega)
  rw[A' (by omega)]at a
  have b:=ih (xs.length-1-i) (by omega)
  rw[A' (by omega)]at b
  rw[Ck,A1f _ _ (by rw[I',Ea];exact hq),A1f _ _ (by rw[Ea];exact hq),a,b,ih q hq]
  by_cases c:xs.length-1-i=q
  ·rw[D' c,D' (by omega)];congr 1;omega
  ·rw[A' c]
   by_cases d:i=q
   ·rw[D' d,D' (by omega)];congr 1;omega
   ·rw[A' d]
    by_cases f:q<i∨xs.length-i≤q
    ·rw[D' f,D' (by omega)]
    ·rw[A' f,A' (by omega)]
theorem B2c(xs:List α)(h1:i+i≤xs.length)(h2:xs.length≤i+i+1):Ck xs i=xs.reverse:=by
 apply SG
 intro q
 by_cases a:q<xs.length
 ·rw[S9 (by rw[Ea];exact a),S9 (by rw[TV];exact a),RO xs i h1 q a]
  have e:gt xs.reverse q=gt xs (xs.length-1-q):=by
   simp only[gt,List.getD];rw[Ux a]
  rw[e]
  split
  ·rfl
  ·congr 2;omega
 ·rw[Sm (by rw[Ea];omega),Sm (by rw[TV];omega)]
theorem B1f{xs:List α}{P:α→Prop}(h:∀v∈xs,P v)(hi:i+i≤xs.length):∀v∈Ck xs i,P v:=fun v a=>by
 obtain⟨q,a⟩:=TR.1 a
 have b:q<xs.length:=by rw[←Ea xs i];exact(Sq.1 a).1
 have f:gt (Ck xs i) q=v:=by simp[gt,List.getD,a]
 rw[←f,RO xs i hi q b]
 have c:∀j,j<xs.length→P (gt xs j):=fun j d=>h _ (Ta (S9 d))
 split
 ·exact c _ (by omega)
 ·exact c _ b
end
theorem RdL.rev [Enc α](h:RdL m xs L):RdL m xs.reverse L.reverse:=by
 have c:=h.len1
 refine⟨by rw[TV,TV,c];exact(SD _).symm,fun i x a=>?_⟩
 have hi:i<L.length:=by have:=(Sq.1 a).1;simpa using this
 rw[Ux hi]at a
 obtain⟨vs,f,g⟩:=h.2 _ x a
 obtain⟨v,rfl,k⟩:=f
 refine⟨[v],⟨v,rfl,k⟩,fun j u b=>?_⟩
 cases j with
 |succ j=>simp at b
 |zero=>
  have d:=g 0 v rfl
  rw[show Enc.sz (List α)=1 from rfl,SD,TB]at d⊢
  rw[Ux (by omega),c,d]
  simpa using b
theorem RdL.ones [Enc α](h:RdL m xs L):∀v∈xs,v.oneCell'=true:=fun v b=>by
 obtain⟨q,a⟩:=TR.1 b
 have c:q<L.length:=by rw[←h.len1];exact(Sq.1 a).1
 have d:=(h.slAt c).one
 have f:gt xs q=v:=by simp[gt,List.getD,a]
 rwa [f]at d
end Go.Kx
