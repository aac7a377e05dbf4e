import Derived.Test.YtooomcigmleneaaGreatKxL
set_option linter.all false
namespace Go.Kx
section
variable{P:Program}{B:Base}{m:Mem}{H:List Ent}{σ:B6}{ty:TypeId}
theorem St.leAll{w:World}(hw:St B m H w):m.le (Mem.all w):=hw.sub
theorem St.rowSl{α:Type}[Enc α]{w:World}(hw:St B m H w){k:Nat}{v:Value}{e:TypeId}{xs:List Value}{L:List α}(hH:A7 H k=some (row v e (Enc.sz α) L.length xs))(hx:RdL m xs L)(hl:L.length≤C7):Sl (Mem.all w) v L:=by
 have c:(row v e (Enc.sz α) L.length xs).holds w:=C3 hw hH
 have d:=hw.leAll
 rcases c.2 with⟨rfl,h0⟩|⟨g,cap,cur,rfl,_,hg,hnc,hcm,hcs,htake⟩
 ·have:L=[]:=Tj h0
  subst this;exact .nil
 ·refine .some _ _ _ (fun _=>rfl) hnc hl hcm ?_
  intro i x b
  obtain⟨vs,f,l⟩:=hx.2 i x b
  refine⟨vs,Enc.mono d f,rfl,cur,e,(0,0),hg,?_⟩
  intro j u n
  have a:=l j u n
  rw[←htake,SI]at a
  split at a
  ·simpa[SX]using a
  ·cases a
theorem St.rowFSl{α:Type}[Flat α][Enc α][FlatEnc α]{w:World}(hw:St B m H w){k:Nat}{v:Value}{e:TypeId}{L:List α}(hH:A7 H k=some (A5 v e L))(hl:L.length≤C7):Sl (Mem.all w) v L:=
 hw.rowSl (by rw[FlatEnc.sz];exact hH) (RdL.flat m L) hl
theorem St.lent{m':Mem}{Es:List Ent}{w w':World}(hw:St B m H w)(h':St ⟨w,[],Mem.all w⟩ m' Es w'):St B m (Es++H) w':=by
 have l:Ext w w':=⟨h'.os,h'.tape,h'.output,h'.size,fun b a=>h'.base b a (by simp)⟩
 have k:=hw.ext l
 have d:∀b∈B8 Es,w.heap.size≤b:=fun b a=>by
  rcases h'.ids b a with h3|h3
  ·exact absurd h3 (Td)
  ·exact h3
 refine{k with own:=?_,ids:=?_,avoid:=?_,nodup:=?_}
 ·intro e f
  rcases Sa.1 f with h3|h3
  ·exact h'.own e h3
  ·exact k.own e h3
 ·intro b a
  rw[E5]at a
  rcases Sa.1 a with h3|h3
  ·exact .inr (Sz hw.size (d b h3))
  ·exact hw.ids b h3
 ·intro b a
  rw[E5]at a
  rcases Sa.1 a with h3|h3
  ·cases f:m b with
   |none=>rfl
   |some o=>exact absurd (hw.sub.lt f) (Tn.2 (d b h3))
  ·exact hw.avoid b h3
 ·rw[E5]
  refine Ss.2 ⟨h'.nodup,hw.nodup,?_⟩
  intro b a c n g
  subst g
  exact absurd (hw.lt n) (Tn.2 (d b a))
theorem Ft{f:FuncId}{l:List Operand}{ts:Array TypeId}{vs:List Value}{v:Value}(hf:Enters P f)(hl:AS σ l=some vs)(hc:∀w,St B m H w→Exact P f vs.toArray (Mem.all w) v):
 OpX P B m H σ (.call (Call.mk (.value (.func f)) l.toArray ts)) ty v:=
 ⟨trivial,BB rfl hl,fun w c o a next Q d n k=>by
  rw[CV hf hl w o d]
  refine(hc w c w (fun _ _ h=>h)).mono fun e w' b=>?_
  have g:=Ret.ext b rfl
  obtain⟨u,m',H',rfl,p,rfl⟩:=b
  exact k w' g⟩
theorem KR{f:FuncId}{l:List Operand}{ts:Array TypeId}{vs:List Value}{R:List Ent→Value→Prop}(hf:Enters P f)(hl:AS σ l=some vs)(hc:∀B w,St B m H w→Own P f vs.toArray (Mem.all w) (fun _ Es v=>R Es v)):
 OpTo P B m H σ (.call (Call.mk (.value (.func f)) l.toArray ts)) ty (fun v m' H'=>m.le m'∧∃Es,R Es v∧H'=Es++H):=
 ⟨trivial,BB rfl hl,fun M B w c o a next Q d p kk=>Q6 M<| by
  rw[CV hf hl w o d]
  have b:St ⟨w,B8 [],Mem.all w⟩ (Mem.all w) [] w:=by
   refine⟨rfl,rfl,rfl,E' _,fun _ _ _=>rfl,fun _ _ h=>h,Mem.le_refl _,fun _ _=>rfl,by simp,by simp[B8],by simp[B8],by simp[B8]⟩
  refine(hc B w c w b).mono fun e' w' g=>?_
  obtain⟨u,m',H',rfl,k,n⟩:=g
  exact kk u m _ w' ⟨Mem.le_refl _,H',n,rfl⟩ (c.lent k)⟩
theorem NB{x y:Operand}{t t':TypeId}{a b:Int}(hx:ev σ x=some (.int .u64 a))(hy:ev σ y=some (.int .u64 b))(h0:0≤a+b)(h1:a+b≤9223372036854775807):
 OpX P B m H σ (.binOp .add t x y t') ty (.int .u64 (a+b)):=
 .ofRun trivial (D1 rfl hx hy) fun w _ o c _=>by simp[execOp,c,A6 hx,A6 hy,eqGuard,binOp,Op.intArith,U2 h0 h1]
theorem Ju{x y:Operand}{t t':TypeId}{a b:Int}(hx:ev σ x=some (.int .u64 a))(hy:ev σ y=some (.int .u64 b))(h0:0≤a*b)(h1:a*b≤9223372036854775807):
 OpX P B m H σ (.binOp .mul t x y t') ty (.int .u64 (a*b)):=
 .ofRun trivial (D1 rfl hx hy) fun w _ o c _=>by simp[execOp,c,A6 hx,A6 hy,eqGuard,binOp,Op.intArith,U2 h0 h1]
theorem QX{x y:Operand}{t t':TypeId}{a:Int}(hx:ev σ x=some (.int .u64 a))(hy:ev σ y=some (.int .u64 4294967295))(h0:0≤a)(h1:a≤4294967295):
 OpX P B m H σ (.binOp .and t x y t') ty (.int .u64 a):=
 .ofRun trivial (D1 rfl hx hy) fun w _ o d _=>by
  have f:(BitVec.ofInt 64 a &&& BitVec.ofInt 64 4294967295).toNat=a.toNat:=by
   obtain⟨n,rfl⟩:∃n:Nat,a=n:=⟨a.toNat,by omega⟩
   have g:BitVec.ofInt 64 (n:Int)=BitVec.ofNat 64 n:=by simp
   have k:BitVec.ofInt 64 4294967295=BitVec.ofNat 64 4294967295:=rfl
   rw[g,k,BitVec.toNat_and,BitVec.toNat_ofNat,BitVec.toNat_ofNat]
   rw[Nat.mod_eq_of_lt (by omega),Nat.mod_eq_of_lt (by omega)]
   rw[show(4294967295:Nat)=2^32-1 by rfl,Nat.and_two_pow_sub_one_eq_mod,Nat.mod_eq_of_lt (by omega)]
   simp
  have b:IntKind.u64.wrap (a.toNat:Int)=a:=by rw[U2 (by omega) (by omega)];omega
  have c:(BitVec.ofInt IntKind.u64.bits a &&& BitVec.ofInt IntKind.u64.bits 4294967295).toNat=a.toNat:=f
  simp only[execOp,d,A6 hx,A6 hy,eqGuard,binOp,Op.intBits,c,b]
  simp
theorem Hc{x y:Operand}{t t':TypeId}{a:Int}{k:IntKind}(hx:ev σ x=some (.int .u64 a))(hy:ev σ y=some (.int k 32))(h0:0≤a)(h1:a≤4294967295):
 OpX P B m H σ (.binOp .shr t x y t') ty (.int .u64 0):=
 .ofRun trivial (D1 rfl hx hy) fun w _ o b _=>by
  have c:a.fdiv 4294967296=0:=by rw[UF a (show(0:Int)≤4294967296 by decide)];omega
  simp[execOp,b,A6 hx,A6 hy,eqGuard,binOp,Op.shift,IntKind.bits,c]
theorem Ex{x y:Operand}{t e:TypeId}{g n c sz:Nat}{q:Int}(k:Nat)(ht:P.underlying t=some (.slice e))(hz:∀w,(sizeOf e).run P w= .ok sz w)
 (hx:ev σ x=some (.slice (some ⟨g,0,none⟩) n c)) (hy:ev σ y=some (.int .i64 q)) (hq:q=k) (h1:k<n) (h2:n≤c):
 OpX P B m H σ (.slice t x (some y) none none) ty (.slice (some ⟨g,k*sz,none⟩) (n-k) (c-k)):=by
 subst hq
 have a:∀j:Nat,(⟨g,0,none⟩:Addr).add j=⟨g,j,none⟩:=fun j=>by rw[C9 rfl,SC]
 have f:P.elem t=e:=by simp[Program.elem,ht]
 have b:P.underlying t=some (.slice (P.elem t)):=by rw[f];exact ht
 refine .ofRun trivial (Fg (l:=[x,y]) rfl (by simp only[Sn,forall_eq_or_imp,Td,false_imp_iff,implies_true,and_true];exact⟨⟨_,hx⟩,⟨_,hy⟩⟩)) fun w _ o p _=>?_
 have d:=run_slice_l (P:=P) w t (some ⟨g,0,none⟩) n c b .i64 k (by omega) (by omega)
 rw[←run_sliceAt_slice (P:=P) w t _ _ _ _ b,f,hz]at d
 simp only[Result.andThen_ok,_root_.Go.sliced,Ui,A' (show¬c=k by omega),Ty,a]at d
 simp[execOp,p,A6 hx,A6 hy,d]
theorem A0J{x y:Operand}{t e:TypeId}{g n c sz:Nat}{q:Int}(k:Nat)(ht:P.underlying t=some (.slice e))(hz:∀w,(sizeOf e).run P w= .ok sz w)
 (hx:ev σ x=some (.slice (some ⟨g,0,none⟩) n c)) (hy:ev σ y=some (.int .i64 q)) (hq:q=k) (h1:k<n) (h2:n≤c):
 OpX P B m H σ (.slice t x none (some y) none) ty (.slice (some ⟨g,0,none⟩) k c):=by
 subst hq
 have a:∀j:Nat,(⟨g,0,none⟩:Addr).add j=⟨g,j,none⟩:=fun j=>by rw[C9 rfl,SC]
 have f:P.elem t=e:=by simp[Program.elem,ht]
 have b:P.underlying t=some (.slice (P.elem t)):=by rw[f];exact ht
 refine .ofRun trivial (Fg (l:=[x,y]) rfl (by simp only[Sn,forall_eq_or_imp,Td,false_imp_iff,implies_true,and_true];exact⟨⟨_,hx⟩,⟨_,hy⟩⟩)) fun w _ o p _=>?_
 have d:=run_slice_h (P:=P) w t (some ⟨g,0,none⟩) n c b .i64 k (by omega) (by omega)
 rw[←run_sliceAt_slice (P:=P) w t _ _ _ _ b,f,hz]at d
 simp only[Result.andThen_ok,_root_.Go.sliced,Ui,A' (show¬c=0 by omega),Ty,a,SU,Ts]at d
 simp[execOp,p,A6 hx,A6 hy,d]
theorem DY{s x:Operand}{t t' e e':TypeId}{g off dl dc sl sc n0 c0 sz n k:Nat}{a:Addr}{xs:List Value}(cs:List Value)(ht:P.underlying t=some (.slice e))(hz:∀w,(sizeOf e).run P w= .ok sz w)
 (hd:ev σ s=some (.slice (some ⟨g,off,none⟩) dl dc)) (hx:ev σ x=some (.slice (some a) sl sc)) (hH:A7 H k=some (row (.slice (some ⟨g,0,none⟩) n0 c0) e' sz n xs))
 (hn:cs.length=min sl dl*sz) (hsrc:∀B w,St B m H w→∀j v,cs[j]?=some v→w.cell? (a.add j)=some v) (hfit:off+cs.length≤xs.length) (h0:0<cs.length) (h1:∀v∈cs,v.oneCell'=true):
 OpTo P B m H σ (.call (Call.mk (.builtin .copy) #[s,x] #[t,t'])) ty (fun v m' H'=>v= .int .i64 ((min sl dl:Nat):Int)∧m'=m∧H'=H4 H k (row (.slice (some ⟨g,0,none⟩) n0 c0) e' sz n (xs.take off++cs++xs.drop (off+cs.length)))):=
 ⟨trivial,D1 (by simp[Op.operands,Call.operands]) hd hx,fun M B w f o ac next Q p q kk=>Q6 M<| by
  have l:=run_loadCells_list (P:=P) w a cs (hsrc B w f)
  rw[hn]at l
  obtain⟨w',c,d⟩:=Cd (P:=P) f hH h0 hfit h1
  have b:(storeCells ⟨g,off,none⟩ cs).run P w= .ok () w':=c
  have r:(Builtin.copy_ #[t,t'] o.type #[.slice (some ⟨g,off,none⟩) dl dc,.slice (some a) sl sc]).run P w= .ok (goInt ((min sl dl:Nat):Int)) w':=by
   simp[Builtin.copy_,run_underlying ht,Builtin.lenOf,Builtin.firstCells,hz,l,b]
  have:=kk (.int .i64 ((min sl dl:Nat):Int)) m _ w' ⟨rfl,rfl,rfl⟩ d
  simp only[execOp,p]
  simp[resolve,invoke,builtin,A6 hd,A6 hx,r]
  exact this⟩
theorem Hz{α:Type}[Flat α]{L:List α}{k:Nat}(h:k≤L.length):(flat L).drop (k*Flat.n α)=flat (L.drop k):=by
 have a:flat L=flat (L.take k)++flat (L.drop k):=by rw[←S2,Uj]
 have b:(flat (L.take k)).length=k*Flat.n α:=by rw[F8,Sr,SQ h]
 rw[a,←b,List.drop_left]
theorem Fe{α:Type}[Flat α]{L:List α}{k:Nat}(h:k≤L.length):(flat L).take (k*Flat.n α)=flat (L.take k):=by
 have a:flat L=flat (L.take k)++flat (L.drop k):=by rw[←S2,Uj]
 have b:(flat (L.take k)).length=k*Flat.n α:=by rw[F8,Sr,SQ h]
 rw[a,←b,TC]
theorem Ge{α:Type}[Flat α](L:List α):∀v∈flat L,v.oneCell'=true:=by
 intro v a
 unfold flat at a
 rw[List.mem_flatMap]at a
 obtain⟨x,_,b⟩:=a
 exact Flat.one x v b
theorem B1j{α:Type}[Flat α][Enc α][FlatEnc α](hu:∀(m:Mem) (vs:List Value) (x:α),Enc.rd m vs x→vs=Flat.enc x){s x:Operand}{t t' e e':TypeId}{g n c k:Nat}{v:Value}{L C:List α}(ht:P.underlying t=some (.slice e))(hz:∀w,(sizeOf e).run P w= .ok (Flat.n α) w)
 (hd:ev σ s=some (.slice (some ⟨g,0,none⟩) n c)) (hx:ev σ x=some v) (hs:Sl m v C) (hH:A7 H k=some (A5 (.slice (some ⟨g,0,none⟩) n c) e' L)) (hL:L.length=n) (h0:0<C.length) (hC:C.length≤n):
 OpTo P B m H σ (.call (Call.mk (.builtin .copy) #[s,x] #[t,t'])) ty (fun U m' H'=>U= .int .i64 (C.length:Int)∧m'=m∧H'=H4 H k (A5 (.slice (some ⟨g,0,none⟩) n c) e' (C++L.drop C.length))):=by
 have y:0<Flat.n α:=Flat.pos
 obtain⟨news,z,D,A⟩:=hs.src
 have b:news=flat C:=A1s (hu _) z
 subst b
 rcases A with⟨hv,rfl⟩|⟨p,cap,hv,_,g4⟩
 ·simp at h0
 ·have a:(flat C).length=C.length*Flat.n α:=F8 C
  have:=DY (P:=P) (B:=B) (m:=m) (H:=H) (σ:=σ) (ty:=ty) (t':=t') (flat C) ht hz hd (hx.trans (Sd some hv)) hH (by rw[a,SQ hC]) (fun B w d j u q=>by have:=g4 w d.sub j u q;simpa using this)
   (by rw[a,F8,hL,SC];exact Sw _ hC) (by rw[a];exact TP h0 y) (Ge C)
  rw[SQ hC]at this
  refine⟨this.sel,this.defd,fun M B w d o ac next Q r ht k'=>this.run M B w d o ac next Q r ht fun U m' H' w' h f=>k' U m' H' w' ⟨h.1,h.2.1,?_⟩ f⟩
  rw[h.2.2,a,SC,Hz (by omega),List.take_zero,Uc,←S2]
  have l:(C++L.drop C.length).length=L.length:=by simp;omega
  simp only[A5,l]
theorem B1D{α:Type}[Flat α]{s x:Operand}{t t' e e':TypeId}{g n c k a:Nat}{L:List α}(ht:P.underlying t=some (.slice e))(hz:∀w,(sizeOf e).run P w= .ok (Flat.n α) w)
 (hd:ev σ s=some (.slice (some ⟨g,a*Flat.n α,none⟩) (n-a) (c-a))) (hx:ev σ x=some (.slice (some ⟨g,0,none⟩) a c)) (hH:A7 H k=some (A5 (.slice (some ⟨g,0,none⟩) n c) e' L)) (hL:L.length=n) (h0:0<a) (hC:a<n):
 OpTo P B m H σ (.call (Call.mk (.builtin .copy) #[s,x] #[t,t'])) ty (fun U m' H'=>U= .int .i64 ((min a (n-a):Nat):Int)∧m'=m∧H'=H4 H k (A5 (.slice (some ⟨g,0,none⟩) n c) e' (L.take a++L.take (min a (n-a))++L.drop (a+min a (n-a))))):=by
 have C:0<Flat.n α:=Flat.pos
 obtain⟨q,z⟩:∃q,q=min a (n-a):=⟨_,rfl⟩
 rw[←z]
 have b:(flat (L.take q)).length=q*Flat.n α:=by rw[F8,Sr,SQ (by omega)]
 have d:(a+q)*Flat.n α≤n*Flat.n α:=Sw _ (by omega)
 rw[Sb]at d
 have:=DY (P:=P) (B:=B) (m:=m) (H:=H) (σ:=σ) (ty:=ty) (t':=t') (flat (L.take q)) ht hz hd hx hH (by rw[b,z]) (fun B w p j u l=>by
  have v:(flat L)[j]?=some u:=by
   rw[←Fe (by omega),SI]at l
   split at l
   ·exact l
   ·cases l
  have D:=(FK (C3 p hH) v).1
  have f:(⟨g,0,none⟩:Addr).add j=rp (.slice (some ⟨g,0,none⟩) n c) j:=by rw[C9 rfl,SC];rfl
  rw[f];exact D)
  (by rw[b,F8,hL];exact d) (by rw[b];exact TP (by omega) C) (Ge _)
 rw[←z]at this
 refine⟨this.sel,this.defd,fun M B w p o ac next Q A ht k'=>this.run M B w p o ac next Q A ht fun U m' H' w' h r=>k' U m' H' w' ⟨h.1,h.2.1,?_⟩ r⟩
 rw[h.2.2,b,←Sb,Hz (by omega),Fe (by omega),←S2,←S2]
 have y:(L.take a++L.take q++L.drop (a+q)).length=L.length:=by simp;omega
 simp only[A5,y]
theorem WK.form{N:Nat}{K:Act→World→Prop}{k:Nat}{v:Value}{e:TypeId}{sz n:Nat}{xs:List Value}(hH:A7 H k=some (row v e sz n xs))(hn:0<n)(kk:∀g c,v= .slice (some ⟨g,0,none⟩) n c→n≤c→WK N B m H σ K):WK N B m H σ K:=fun Ds w b a d=>by
 have f:(row v e sz n xs).holds w:=C3 b (S8 hH)
 obtain⟨g,cap,cur,l,_,o,_⟩:=EB f hn
 exact kk g cap l o Ds w b a d
end
section
variable{M:Option Nat}{P:Program}{N:Nat}{ops:Array Oper}{Q:Exit→Act→World→Prop}{B:Base}{m:Mem}{H:List Ent}{σ:B6}{rest:List Oper}
 {d:Nat} {op:Op} {ty:TypeId} {pos:String} {after:Array Edge} {i:Nat} {must:Bool} {π:Plan} {piv non:List Nat} {KK:Mem→List Ent→B6→Prop} {g:Option (Nat×Bool)}
theorem A2D{V:Value}{H1:List Ent}(h:OpTo P B m H σ op ty (fun v m' H'=>v=V∧m'=m∧H'=H1))(hd:d<N)(k:WL M P N ops Q B m H1 ((d,V)::σ) rest):WL M P N ops Q B m H σ (⟨some d,op,ty,pos,after,none⟩::rest):=
 WL.to h hd fun v m' H' ⟨a,b,c⟩=>by subst a;subst b;subst c;exact k
theorem A2L{V:Value}{H1:List Ent}(ho:ops[i]?=some ⟨some d,op,ty,pos,after,g⟩)(hp:piv.contains i=true)(hn:non.contains i=true)(hg:N6 ops σ ⟨some d,op,ty,pos,after,g⟩=some true)
 (h:OpTo P B m H σ op ty (fun v m' H'=>v=V∧m'=m∧H'=H1)) (hd:d<N) (k:DW P B N ops piv non KK false π m H1 ((d,V)::σ)):DW P B N ops piv non KK must (.cons i π) m H σ:=
 DW.to ho hp hg h hd (fun a=>by rw[hn]at a;cases a) (fun _ _ _ h=>by rw[h.2.1];exact Mem.le_refl _) fun v m' H' ⟨b,c,f⟩=>by subst b;subst c;subst f;exact k
theorem N8{g:Operand}{ps:List Nat}{assign body:Code}{gf:Nat}{lb:List Value}{n:Nat}{A:Nat→Mem→Array Value→Prop}
 (hg:ev σ g=some (.func (.func gf) #[] lb.toArray)) (eg:Enters P gf) {once:Bool} (hit:S1 P gf lb m once n A)
 {S G:Type} (HS:S→List Ent) (I:Nat→Mem→S→Prop) (Ix:Exit→Nat→Mem→S→Prop) (s0:S) (hH:HS s0=H) (h0:I 0 m s0) (hone:once=true→∀i m' s,¬I (i+1) m' s) (hmono:∀i m1 m2 s,m1.le m2→I i m1 s→I i m2 s)
 (hps:∀p∈ps,p<N) (hA:∀i m1 args,A i m1 args→args.size=ps.length)
 (HA:G→List Value→S→List Ent) (σA:G→List Value→B6)
 (hassign:∀l B' i m1 s args (K:Act→World→Prop),args.length=ps.length→A i m1 args.toArray→m.le m1→(∀g,WK N B' m1 (HA g args s) (σA g args) K)→WC (some l) P N (Exit.then K (fun _ _ _=>False)) B' m1 (HS s) ((ps.zip args).reverse++σ) assign)
 (hbody:∀l B' i m1 s args g,args.length=ps.length→i<n→m.le m1→A i m1 args.toArray→I i m1 s→WC (some l) P N (Mi B' m1 HS (I (i+1)) (fun e=>Ix e (i+1))) B' m1 (HA g args s) (σA g args) body)
 (hdone:∀m' s,m.le m'→I n m' s→WK N B m' (HS s) σ (Q .normal))
 (hret:∀i m' s,m.le m'→i≤n→Ix .ret i m' s→WK N B m' (HS s) σ (Q .ret))
 (hexit:∀id i m' s,m.le m'→i≤n→Ix (.exit id) i m' s→WK N B m' (HS s) σ (Q (.exit id))):
 WC none P N Q B m H σ (.rangeFunc g ps.toArray assign body):=by
 intro Ds w hw a T
 subst hH
 refine wpIn_rangeFunc ?_
 intro fn b5
 show∃(l:Nat) (mark:List Deferred) (w₁:World) (d:Deferred) (w₁':World) (f:FuncId) (args:Array Value) (w₂:World),(Instr.enterLoop fn a.tmps ps.toArray assign body none).run P w= .ok (l,mark) w₁∧_
 obtain⟨rec,b⟩:∃rec:LoopState→Option Code→Loop,rec=fun st pe=>{state:=st,pending:=pe,fn,tmps:=a.tmps,params:=ps.toArray,assign,body,defers:=w.heap.size}:=⟨_,rfl⟩
 have a6:=run_enterLoop_outer (P:=P) (w:=w) fn a.tmps ps.toArray assign body
 have k:=(hw.laid (.deferred (some []))).laid (.loop (rec .ready none))
 rw[World.size_alloc]at k
 obtain⟨W1,a2⟩:∃W1,(w.alloc (.deferred (some []))).alloc (.loop (rec .ready none))=W1:=⟨_,rfl⟩
 rw[a2]at k
 refine⟨w.heap.size+1,[mk w.heap.size],W1,{target:=.fn (.func gf) lb.toArray,args:=#[.func (.yield (w.heap.size+1)) #[] #[]]},W1,gf,
  (Value.func (.yield (w.heap.size+1)) #[] #[]::lb).toArray,W1,?_,?_,?_,?_,by simp[Dg],?_⟩
 ·rw[a6,←a2,b];rfl
 ·have:=T.eval hg
  simp only[resolve,this]
  simp[go_sem]
 ·intro f' _;exact BE none f'
 ·simp only[invoke]
  rw[show(#[Value.func (Fn.yield (w.heap.size+1)) #[] #[]]++lb.toArray:Array Value)=(Value.func (Fn.yield (w.heap.size+1)) #[] #[]::lb).toArray by simp]
  exact eg _ _
 ·have F:∀(w':World) (B':Base) (m':Mem) (H':List Ent) (o:Obj),St B' m' (H'++[F0 (w.heap.size+1) o]) w'→w'.heap[w.heap.size+1]?=some o:=fun w' B' m' H' o h=>h.own (F0 (w.heap.size+1) o) (by simp)
  have V:((HS s0++[F0 (w.heap.size+1) (.loop (rec .ready none))])++(F0 w.heap.size (.deferred (some []))::marks Ds)).Perm
   (F0 (w.heap.size+1) (.loop (rec .ready none))::F0 w.heap.size (.deferred (some []))::(HS s0++marks Ds)):=by
   simp only[Se,Uu]
   refine So.trans ?_
   exact List.Perm.cons _ So
  have E:=k.perm V
  refine Gt none ?_
  refine(hit (w.heap.size+1) (S ⊕ (S×Exit)) (fun
   | .inl s=>HS s++[F0 (w.heap.size+1) (.loop (rec .ready none))]
   | .inr (s,e)=>HS s++[F0 (w.heap.size+1) (.loop (rec .done (some (DB e))))])
   (fun i m' x=>match x with
    | .inl s=>I i m' s
    | .inr _=>False)
   (fun i m' x=>match x with
    | .inl _=>False
    | .inr (s,e)=>Ix e i m' s∧(e= .ret∨∃id,e= .exit id)) (.inl s0) (fun ho i m' x=>by rcases x with s|x;exact hone ho i m' s;exact fun h=>h) (fun i m1 m2 x hm h=>by rcases x with s|x;exact hmono i m1 m2 s hm h;exact h) ?_ h0 W1 E.part).mono ?_
  ·
    rintro i m1 x args hi a4 c hI B' w' M
    rcases x with s|x
    ·have a7:=F _ _ _ _ _ M
     have hy:=run_yield (P:=P) (args:=args) a7 (by rw[b];simpa using hA i m1 args c)
     rw[b]at hy
     refine⟨fn,_,assign,body,hy,roundIn_of_wpIn trivial ?_⟩
     have a8:St ⟨w',B8 (HS s),m1⟩ m1 (HS s) w':=M.part
     obtain⟨b2,a5⟩:=Oz ps args.toList a.tmps σ (fun u v hu=>T.get u v hu) (fun p D=>by rw[T.size];exact hps p D) (by simpa using(hA i m1 args c).symm)
     refine hassign (w.heap.size+1) _ i m1 s args.toList _ (by simpa using hA i m1 args c) (by simpa using c) a4 ?_ [] w' (by simpa[marks]using a8) _ ⟨rfl,?_,?_⟩
     rotate_left
     ·simp only[←Tr];rw[TO];rw[b2,T.size]
     ·intro u v hu
      have:=a5 u v hu
      simp only[←Tr];rw[TO];exact this
     ·intro g Ds' w1 b3 a1 b4
      have W:=M.handed b3
      have a9:=F _ _ _ _ _ W
      refine⟨_,run_beginRound a9 (by rw[b]),?_⟩
      have X:=W.turn (o':=.loop {rec .ready none with state:=.busy}) (R:=[])
      have hb:=hbody (w.heap.size+1) _ i m1 s args.toList g (by simpa using hA i m1 args c) hi a4 (by simpa using c) hI Ds' _ X.part a1 b4
      refine wpIn_mono hb ?_
      intro e a3 w3 D
      have fin:∀(jump:Option Code) (m':Mem) (s':S),St ⟨w1.putObj (w.heap.size+1) (.loop {rec .ready none with state:=.busy}),B8 (HA g args.toList s++marks Ds'),m1⟩ m' (HS s') w3→
       (Instr.endRound (w.heap.size+1) jump).run P w3= .ok (.bool jump.isNone) (w3.putObj (w.heap.size+1) (.loop (rec (if jump.isNone then .ready else .done) jump)))∧
       St B' m' (HS s'++[F0 (w.heap.size+1) (.loop (rec (if jump.isNone then .ready else .done) jump))]) (w3.putObj (w.heap.size+1) (.loop (rec (if jump.isNone then .ready else .done) jump))):=by
       intro jump m' s' C
       have Y:=X.handed C
       have b0:=F _ _ _ _ _ Y
       have he:=run_endRound (P:=P) jump b0
       refine⟨?_,?_⟩
       ·rw[he,b]
       ·exact Y.turn (R:=[])
      cases e with
      |normal=>
       obtain⟨m',s',z,y,h3⟩:=D
       obtain⟨J,L⟩:=fin none m' s' h3
       exact⟨_,_,J,.inl ⟨rfl,m',_,⟨z,.inl s',rfl,y⟩,L⟩⟩
      |ret=>
       obtain⟨m',s',z,y,h3⟩:=D
       obtain⟨J,L⟩:=fin (some .ret) m' s' h3
       exact⟨_,_,J,.inr ⟨rfl,m',_,⟨z,.inr (s',.ret),rfl,y,.inl rfl⟩,L⟩⟩
      |exit id=>
       obtain⟨m',s',z,y,h3⟩:=D
       obtain⟨J,L⟩:=fin (some (.exit id)) m' s' h3
       exact⟨_,_,J,.inr ⟨rfl,m',_,⟨z,.inr (s',.exit id),rfl,y,.inr ⟨id,rfl⟩⟩,L⟩⟩
      |goto t=>exact D.elim
      |panic ch=>exact D.elim
      |outgrown=>exact D.elim
    ·exact hI.elim
  ·
    rintro e w2 ⟨v,m',Es,rfl,hs,x,rfl,hx⟩
    have a0:=E.handed hs
    have fin:∀(s:S) (r:Loop) (jump:Option Code),r.state≠ .busy→r.pending=jump→St B m' ((HS s++[F0 (w.heap.size+1) (.loop r)])++(F0 w.heap.size (.deferred (some []))::marks Ds)) w2→
     (Instr.endLoop (w.heap.size+1)).run P w2= .ok jump (w2.putObj (w.heap.size+1) (.loop {r with state:=.exhausted}))∧
     St B m' (HS s++marks (w.heap.size::Ds)) (w2.putObj (w.heap.size+1) (.loop {r with state:=.exhausted})):=by
     intro s r jump hr hj C
     have b1:w2.heap[w.heap.size+1]?=some (.loop r):=C.own (F0 (w.heap.size+1) (.loop r)) (by simp)
     refine⟨by rw[←hj];exact run_endLoop b1 hr,?_⟩
     have J:St B m' (HS s++F0 (w.heap.size+1) (.loop r)::(F0 w.heap.size (.deferred (some []))::marks Ds)) w2:=by simpa using C
     have L:=J.turn (o':=.loop {r with state:=.exhausted})
     exact L.weaken (UD (Tq _ _) _)
    have q:Env N (w.heap.size::Ds) σ {a with defers:=[mk w.heap.size]++a.defers}:=⟨by simp[T.defers],T.size,T.get⟩
    rcases x with s|⟨s,e⟩
    ·rcases hx with hI|⟨i,_,hF⟩
     ·obtain⟨z,y⟩:=fin s (rec .ready none) none (by rw[b];simp) (by rw[b]) a0
      refine⟨_,_,z,?_⟩
      exact hdone m' s hs.le hI _ _ y _ q
     ·exact hF.elim
    ·rcases hx with hF|⟨i,hi,hIx,he⟩
     ·exact hF.elim
     ·obtain⟨z,y⟩:=fin s (rec .done (some (DB e))) (some (DB e)) (by rw[b];simp) (by rw[b]) a0
      refine⟨_,_,z,?_⟩
      rcases he with rfl|⟨id,rfl⟩
      ·exact wpIn_ret (hret i m' s hs.le hi hIx _ _ y _ q)
      ·exact wpIn_exit (hexit id i m' s hs.le hi hIx _ _ y _ q)
end
open Go
theorem Fw{z:Int}(h1:0≤z)(h2:z≤255):IntKind.u8.wrap z=z:=by
 simp only[IntKind.wrap,IntKind.bits,IntKind.signed]
 have:z%256=z:=Int.emod_eq_of_lt h1 (by omega)
 simp[this]
def GP(b:ByteArray)(q:Int):Int:=((b[q.toNat]?).getD 0).toNat
theorem A4Z(b:ByteArray)(q:Int):0≤GP b q∧GP b q≤255:=by
 unfold GP
 have:=((b[q.toNat]?).getD 0).toNat_lt
 omega
section
variable{P:Program}{B:Base}{m:Mem}{H:List Ent}{σ:B6}{ty:TypeId}
theorem A0z{x y:Operand}{t:TypeId}{b:ByteArray}{k:IntKind}{q:Int}(hu:∀w,(underlying t).run P w= .ok .string w)(hx:ev σ x=some (.string b))(hy:ev σ y=some (.int k q))(h0:0≤q)(h1:q.toNat<b.size):
 OpX P B m H σ (.index t x y) ty (.int .u8 (GP b q)):=
 .ofRun trivial (D1 rfl hx hy) fun w _ o a _=>by
  have c:b[q.toNat]?=some (b[q.toNat]'h1):=by simp[h1]
  simp[execOp,a,Instr.index,asIntOf,A6 hx,A6 hy,hu,h0,c,GP]
theorem A9V{x y:Operand}{t:TypeId}{b:ByteArray}{k:IntKind}{q:Int}(n:Nat)(hu:∀w,(underlying t).run P w= .ok .string w)(hx:ev σ x=some (.string b))(hy:ev σ y=some (.int k q))(hb:b.size=n)(h0:0≤q)(h1:q<n):
 E P B m H σ (.index t x y) ty (fun r:Int=>.int .u8 r) (fun r=>0≤r∧r≤255):=⟨GP b q,A0z hu hx hy h0 (by omega),A4Z b q⟩
theorem CN{x y:Operand}{t e:TypeId}{k off sz n:Nat}{v u:Value}{xs:List Value}(hz:∀w,(sizeOf t).run P w= .ok 1 w)
 (hx:ev σ x=some (.pointer (some (rp v off)))) (hy:ev σ y=some u) (hH:A7 H k=some (row v e sz n xs)) (hu:u.oneCell'=true) (ho:off<xs.length):
 OpTo P B m H σ (.store t x y) ty (fun _ m' H'=>m'=m∧H'=H4 H k (row v e sz n (xs.set off u))):=
 .ofRun trivial (D1 rfl hx hy) fun w b o a _=>by
  have c:u.cells=#[u]:=D7 hu
  obtain⟨w',d,f⟩:=IZ (P:=P) (u:=u) (off:=off) b hH ho hu
  exact⟨undef,w',.inr ⟨by simp[execOp,a,A6 hx,A6 hy,Instr.storeAt,Instr.sureAddr,storeVar,hz,c,d],rfl⟩,m,_,⟨rfl,rfl⟩,f⟩
theorem A7R{xs:List Value}{off:Nat}{v:Value}(h:xs[off]?=some v):xs.set off v=xs:=by
 apply SG
 intro i
 rw[SR]
 split
 ·rename_i hi;subst hi
  have:off<xs.length:=(Sq.1 h).1
  rw[D' this,h]
 ·rfl
theorem OB{N:Nat}{K:Act→World→Prop}{k:Nat}{v:Value}{e:TypeId}{sz n:Nat}{xs:List Value}(hH:A7 H k=some (row v e sz n xs))(kk:v.oneCell'=true→WK N B m H σ K):WK N B m H σ K:=fun Ds w b a c=>by
 refine kk ?_ Ds w b a c
 have d:(row v e sz n xs).holds w:=C3 b (S8 hH)
 rcases d.2 with⟨rfl,_⟩|⟨g,cap,cur,rfl,_⟩ <;> rfl
end
def CO(a:Int):Prop:=0≤a∧a≤18446744073709551615
theorem A1M(z:Int):CO (IntKind.u64.wrap z):=by
 simp only[CO,IntKind.wrap,IntKind.bits,IntKind.signed]
 simp
 omega
section
variable{P:Program}{B:Base}{m:Mem}{H:List Ent}{σ:B6}{ty:TypeId}
theorem A5K{x y:Operand}{t t':TypeId}{a s:Int}{k:IntKind}(hx:ev σ x=some (.int .u64 a))(hy:ev σ y=some (.int k s))(hs:0≤s):
 E P B m H σ (.binOp .shl t x y t') ty (fun r:Int=>.int .u64 r) CO:=
 ⟨IntKind.u64.wrap (a*2^(min s.toNat 64)),.ofRun trivial (D1 rfl hx hy) fun w _ o b _=>by
  have:¬s<0:=by omega
  simp[execOp,b,A6 hx,A6 hy,eqGuard,binOp,Op.shift,IntKind.bits,this],A1M _⟩
theorem B4v{x y:Operand}{t t':TypeId}{a s:Int}{k:IntKind}(hx:ev σ x=some (.int .u64 a))(hy:ev σ y=some (.int k s))(hs:0≤s)(ha:CO a):
 E P B m H σ (.binOp .shr t x y t') ty (fun r:Int=>.int .u64 r) (fun r=>CO r∧r≤a):=
 ⟨a.fdiv (2^(min s.toNat 64)),.ofRun trivial (D1 rfl hx hy) fun w _ o b _=>by
  have:¬s<0:=by omega
  simp[execOp,b,A6 hx,A6 hy,eqGuard,binOp,Op.shift,IntKind.bits,this],by
  have f:(0:Int)<2^(min s.toNat 64):=Int.pow_pos (by decide)
  rw[UF a (by omega)]
  have c:=TZ ha.1 (show(0:Int)≤2^(min s.toNat 64) by omega)
  have d:=Int.ediv_le_self (2^(min s.toNat 64)) ha.1
  have:=ha.2
  exact⟨⟨c,by omega⟩,d⟩⟩
theorem QQ{x y:Operand}{t t':TypeId}{a b:Int}(hx:ev σ x=some (.int .u64 a))(hy:ev σ y=some (.int .u64 b)):
 E P B m H σ (.binOp .xor t x y t') ty (fun r:Int=>.int .u64 r) CO:=
 ⟨IntKind.u64.wrap (BitVec.ofInt 64 a ^^^ BitVec.ofInt 64 b).toNat,.ofRun trivial (D1 rfl hx hy) fun w _ o c _=>by
  simp[execOp,c,A6 hx,A6 hy,eqGuard,binOp,Op.intBits,IntKind.bits]
  have e:(BitVec.ofInt 64 a ^^^ BitVec.ofInt 64 b).toNat=(a%18446744073709551616).toNat ^^^ (b%18446744073709551616).toNat:=by
   rw[BitVec.toNat_xor,BitVec.toNat_ofInt,BitVec.toNat_ofInt];rfl
  exact Sd (fun n:Nat=>IntKind.u64.wrap (n:Int)) e,A1M _⟩
theorem A4N{x y:Operand}{t t':TypeId}{a b:Int}(hx:ev σ x=some (.int .u64 a))(hy:ev σ y=some (.int .u64 b))(hb:CO b):
 E P B m H σ (.binOp .and t x y t') ty (fun r:Int=>.int .u64 r) (fun r=>0≤r∧r≤b):=
 ⟨IntKind.u64.wrap (BitVec.ofInt 64 a &&& BitVec.ofInt 64 b).toNat,.ofRun trivial (D1 rfl hx hy) fun w _ o d _=>by
  simp[execOp,d,A6 hx,A6 hy,eqGuard,binOp,Op.intBits,IntKind.bits]
  have e:(BitVec.ofInt 64 a &&& BitVec.ofInt 64 b).toNat=(a%18446744073709551616).toNat &&& (b%18446744073709551616).toNat:=by
   rw[BitVec.toNat_and,BitVec.toNat_ofInt,BitVec.toNat_ofInt];rfl
  exact Sd (fun n:Nat=>IntKind.u64.wrap (n:Int)) e,by
  have f:(BitVec.ofInt 64 a &&& BitVec.ofInt 64 b).toNat≤b.toNat:=by
   rw[BitVec.toNat_and]
   refine Sz Nat.and_le_right ?_
   rw[BitVec.toNat_ofInt]
   have c:=hb.1
   have g:=hb.2
   have:b%18446744073709551616=b:=Int.emod_eq_of_lt c (by omega)
   show(b%18446744073709551616).toNat≤b.toNat
   rw[this];exact E' _
  have c:=hb.1
  have g:=hb.2
  have k:∀n:Nat,n≤b.toNat→IntKind.u64.wrap (n:Int)=n:=fun n h=>by
   simp only[IntKind.wrap,IntKind.bits,IntKind.signed]
   simp
   omega
  rw[k _ f]
  omega⟩
theorem Ro{x y:Operand}{t t':TypeId}{a s:Int}{k:IntKind}(c:Int)(hx:ev σ x=some (.int .u64 a))(hy:ev σ y=some (.int k s))(hs:0≤s)(hc:(2:Int)^(min s.toNat 64)=c):
 OpX P B m H σ (.binOp .shr t x y t') ty (.int .u64 (a/c)):=
 .ofRun trivial (D1 rfl hx hy) fun w _ o b _=>by
  have d:¬s<0:=by omega
  have g:(0:Int)<2^(min s.toNat 64):=Int.pow_pos (by decide)
  have f:a.fdiv (2^(min s.toNat 64))=a/c:=by rw[UF a (by omega),hc]
  simp[execOp,b,A6 hx,A6 hy,eqGuard,binOp,Op.shift,IntKind.bits,d,f]
theorem Ga{x y:Operand}{t:TypeId}{b:ByteArray}{k:IntKind}{q:Int}(n:Nat)(f:Nat→Nat→Bool)(hu:∀w,(underlying t).run P w= .ok .string w)(hx:ev σ x=some (.string b))(hy:ev σ y=some (.int k q))(hb:b.size=n)(hall:(List.range n).all (fun i=>f i ((b[i]?).getD 0).toNat)=true)(h0:0≤q)(h1:q<n):
 E P B m H σ (.index t x y) ty (fun r:Nat=>.int .u8 r) (fun r=>f q.toNat r=true∧r≤255):=
 ⟨((b[q.toNat]?).getD 0).toNat,A0z hu hx hy h0 (by omega),Tp.1 hall _ (SS.2 (by omega)),by have:=((b[q.toNat]?).getD 0).toNat_lt;omega⟩
theorem A9m{x y:Operand}{t t':TypeId}{r:Nat}{k:IntKind}(hx:ev σ x=some (.int .u64 1))(hy:ev σ y=some (.int k r))(hr:r≤62):
 OpX P B m H σ (.binOp .shl t x y t') ty (.int .u64 ((2:Int)^r)):=
 .ofRun trivial (D1 rfl hx hy) fun w _ o a _=>by
  have b:¬(r:Int)<0:=by omega
  have c:min r 64=r:=by omega
  have f:(2:Int)^r≤2^62:=by
   have:=Nat.pow_le_pow_right (show 0<2 by decide) hr
   exact_mod_cast this
  have g:(0:Int)<2^r:=Int.pow_pos (by decide)
  have d:IntKind.u64.wrap ((2:Int)^r)=2^r:=U2 (by omega) (by omega)
  simp[execOp,a,A6 hx,A6 hy,eqGuard,binOp,Op.shift,IntKind.bits,c,d]
  intro h;exact absurd h b
theorem A5y{x y:Operand}{t t':TypeId}{a b:Int}(hx:ev σ x=some (.int .u64 a))(hy:ev σ y=some (.int .u64 b))(h0:0≤a-b)(h1:a-b≤9223372036854775807):
 OpX P B m H σ (.binOp .sub t x y t') ty (.int .u64 (a-b)):=
 .ofRun trivial (D1 rfl hx hy) fun w _ o c _=>by simp[execOp,c,A6 hx,A6 hy,eqGuard,binOp,Op.intArith,U2 h0 h1]
end
structure RawV where
 v:Value
 one:v.oneCell'=true
instance:Inhabited RawV:=⟨⟨.slice none 0 0,rfl⟩⟩
instance:Flat RawV:=⟨1,by decide,fun x=>[x.v],fun _=>rfl,fun x v a=>by simp at a;subst a;exact x.one⟩
theorem St.rowSlA{B:Base}{m:Mem}{H:List Ent}{α:Type}[Enc α]{w:World}(hw:St B m H w){k:Nat}{v:Value}{e:TypeId}{xs:List Value}{L:List α}(hH:A7 H k=some (row v e (Enc.sz α) L.length xs))(hx:RdL (Mem.all w) xs L)(hl:L.length≤C7):Sl (Mem.all w) v L:=by
 have c:(row v e (Enc.sz α) L.length xs).holds w:=C3 hw hH
 rcases c.2 with⟨rfl,h0⟩|⟨g,cap,cur,rfl,_,hg,hnc,hcm,hcs,htake⟩
 ·have:L=[]:=Tj h0
  subst this;exact .nil
 ·refine .some _ _ _ (fun _=>rfl) hnc hl hcm ?_
  intro i x b
  obtain⟨vs,d,f⟩:=hx.2 i x b
  refine⟨vs,d,rfl,cur,e,(0,0),hg,?_⟩
  intro j u l
  have a:=f j u l
  rw[←htake,SI]at a
  split at a
  ·simpa[SX]using a
  ·cases a
theorem A2h{α:Type}[Enc α]{m:Mem}:∀{vs:List Value} {M:List (List α)} {i:Nat},RdVs m vs M→(∀v∈vs,v.cells=#[v])→i<M.length→Sl m (gt vs i) (gt M i)
 | [],[],_,_,_,h=>by simp at h
 | [],_::_,_,h,_,_=>h.elim
 |_::_,[],_,h,_,_=>h.elim
 |v::vs,L::M,0,h,ho,_=>by
  obtain⟨⟨ws,hw,u,rfl,hu⟩,_⟩:=h
  rw[Bq,Bq]
  have a:v.cells=#[u]:=hw
  rw[ho v (Sf ..)]at a
  have b:v=u:=by simpa using a
  rw[b];exact hu
 |v::vs,L::M,i+1,h,ho,hi=>by
  rw[Ak,Ak]
  exact A2h h.2 (fun w hw=>ho w (Sg _ hw)) (by simpa using hi)
theorem A0p{N:Nat}{B:Base}{m:Mem}{H:List Ent}{σ:B6}{K:Act→World→Prop}{α:Type}[Flat α][Enc α][FlatEnc α]{e:TypeId}{k:Nat}{vs:List Value}{M:List (List α)}(hX:B.X=[])(hH:A7 H k=some (N4 (L5 e vs M)))(hlen:vs.length=M.length)(hb:∀L∈M,L.length≤C7)
 (kk:∀m',m.le m'→(∀i,i<M.length→Sl m' (gt vs i) (gt M i))→WK N B m' (X3 H k) σ K):WK N B m H σ K:=by
 obtain⟨A,C,rfl,f,d⟩:=N0 hH
 rw[d]at kk
 refine WK.st (H':=L5 e vs M++(A++C)) (fun{Hm w} c=>?_) ?_
 ·have a:=(c.perm (H':=N4 (L5 e vs M)::(A++C++Hm)) (by
   simp only[Se,SM]
   exact So.symm)).unpack
  simpa using a
 ·exact GK hX hlen hb fun m' a b=>kk m' a fun i hi=>A2h b.1 b.2 hi
theorem A7w{α:Type}[Enc α]{m:Mem}{ws:List Value}{L:List (List α)}{i:Nat}{v:Value}{x:List α}(h:RdL m ws L)(hv:Sl m v x)(hi:i<L.length):RdL m (ws.set i v) (L.set i x):=by
 have k:ws.length=L.length*1:=h.1
 refine⟨by rw[I',I'];exact h.1,fun j y b=>?_⟩
 rw[SR]at b
 split at b
 ·rename_i he
  subst he
  cases b
  refine⟨[v],⟨v,rfl,hv⟩,fun q u a=>?_⟩
  match q,a with
  |0,a=>
   cases a
   show(ws.set i v)[i*1+0]?=some v
   rw[SD,TB];simp[show i<ws.length by omega]
 ·rename_i he
  obtain⟨us,d,g⟩:=h.2 j y b
  refine⟨us,d,fun q u a=>?_⟩
  have c:=g q u a
  obtain⟨z,rfl,_⟩:=d
  match q,a with
  |0,a=>
   have f:j*Enc.sz (List α)+0=j:=SD j
   rw[f]at c⊢
   rw[SR,A' he];exact c
theorem A7n{α:Type}[Enc α](m:Mem)(n:Nat):RdL m (List.replicate n (.slice none 0 0)) (List.replicate n ([]:List α)):=by
 refine⟨by simp;exact(SD n).symm,fun j y d=>?_⟩
 obtain⟨b,c⟩:=Sq.1 d
 rw[Tf]at b
 rw[List.getElem_replicate]at c
 subst c
 refine⟨[.slice none 0 0],⟨_,rfl,.nil⟩,fun q u a=>?_⟩
 match q,a with
 |0,a=>
  cases a
  have f:j*Enc.sz (List α)+0=j:=SD j
  rw[f];simp[b]
theorem B1r{α:Type}[Enc α]{m:Mem}{v u:Value}{L M:List α}(h1:Sl m v L)(h2:Sl m u M):RdL m [v,u] [L,M]:=
 RdL.snoc (xs:=[v]) (vs:=[u]) (L:=[L]) (a:=M) (RdL.snoc (xs:=[]) (vs:=[v]) (L:=[]) (a:=L) RdL.nil ⟨v,rfl,h1⟩) ⟨u,rfl,h2⟩
theorem B2t{v u:Value}(h1:v.oneCell'=true)(h2:u.oneCell'=true):[v,u].flatMap (fun v=>v.cells.toList)=flat (α:=RawV) [⟨v,h1⟩,⟨u,h2⟩]:=by
 simp[flat,Flat.enc,D7 h1,D7 h2]
section
variable{P:Program}{B:Base}{N:Nat}{ops:Array Oper}{piv non:List Nat}{KK:Mem→List Ent→B6→Prop}{must:Bool}{m:Mem}{H:List Ent}{σ:B6}{i:Nat}{d:Nat}{op:Op}{ty:TypeId}{pos:String}{after:Array Edge}{g:Option (Nat×Bool)}{π:Plan}
theorem B0v{A:List Ent}{T F:Mem→List Ent→Prop}(ho:ops[i]?=some ⟨some d,op,ty,pos,after,g⟩)(hp:piv.contains i=true)(hn:non.contains i=true)(hg:N6 ops σ ⟨some d,op,ty,pos,after,g⟩=some true)
 (h:OpTo P B m H σ op ty (fun v m' H''=>∃H',H''=A++H'∧((v= .bool true∧T m' H')∨(v= .bool false∧F m' H')))) (hT:∀m' H',T m' H'→m.le m') (hF:∀m' H',F m' H'→m.le m') (hd:d<N)
 (kt:∀m' H',T m' H'→DW P B N ops piv non KK false π m' (A++H') ((d,.bool true)::σ)) (kf:∀m' H',F m' H'→DW P B N ops piv non KK false π m' (A++H') ((d,.bool false)::σ)):DW P B N ops piv non KK must (.cons i π) m H σ:=
 DW.to ho hp hg h hd (fun b=>by rw[hn]at b;cases b) (fun _ m' _ ⟨H',_,a⟩=>by rcases a with⟨_,h1⟩|⟨_,h1⟩;exact hT m' H' h1;exact hF m' H' h1) fun v m' H'' ⟨H',c,a⟩=>by
  subst c
  rcases a with⟨rfl,h1⟩|⟨rfl,h1⟩
  ·exact kt m' H' h1
  ·exact kf m' H' h1
theorem Fl{x:Operand}{t e:TypeId}{k off sz n q:Nat}{v:Value}{xs us:List Value}(ha:∀w,(isAgg t).run P w= .ok true w)(hz:∀w,(sizeOf t).run P w= .ok q w)
 (hx:ev σ x=some (.pointer (some (rp v off)))) (hH:A7 H k=some (row v e sz n xs)) (hn:us.length=q) (hu:∀j u,us[j]?=some u→xs[off+j]?=some u):OpX P B m H σ (.load t x) ty (.agg us.toArray):=
 .ofRun trivial (L6 rfl hx) fun w b o c _=>by
  subst hn
  have f:=run_loadCells_list (P:=P) w (rp v off) us (fun j u d=>by
   have a:(rp v off).add j=rp v (off+j):=by
    unfold rp;rw[C9 rfl]
   rw[a]
   exact(FK (C3 b hH) (hu j u d)).1)
  simp[execOp,c,A6 hx,Instr.loadAt,Instr.sureAddr,loadVar,ha,hz,f]
theorem PX{x y:Operand}{t e:TypeId}{k off sz n:Nat}{v u w:Value}{xs:List Value}(hz:∀w,(sizeOf t).run P w= .ok 1 w)
 (hx:ev σ x=some (.pointer (some (rp v off)))) (hy:ev σ y=some u) (hH:A7 H k=some (row v e sz n (xs.set off w))) (hu:u.oneCell'=true) (ho:off<xs.length):
 OpTo P B m H σ (.store t x y) ty (fun _ m' H'=>m'=m∧H'=H4 H k (row v e sz n (xs.set off u))):=by
 have h:=CN (P:=P) (B:=B) (m:=m) (ty:=ty) hz hx hy hH hu (by rw[I'];exact ho)
 rwa [List.set_set]at h
end
variable{P:Program}{B:Base}{m:Mem}{H:List Ent}{σ:B6}{ty:TypeId}
end Go.Kx
