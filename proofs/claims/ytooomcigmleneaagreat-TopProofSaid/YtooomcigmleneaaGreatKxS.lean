import Derived.Test.YtooomcigmleneaaGreatKxQ
import Derived.Lib.Overlaps
set_option linter.all false
namespace Go.Kx
open Go
section
variable{P:Program}{B:Base}{m:Mem}{H:List Ent}{σ:B6}{ty:TypeId}
theorem RdL.set{α:Type}[Enc α]{m:Mem}{xs us:List Value}{L:List α}{a:α}{i:Nat}(h:RdL m xs L)(ha:Enc.rd m us a)(hi:i<L.length):
 RdL m (xs.take (i*Enc.sz α)++us++xs.drop (i*Enc.sz α+us.length)) (L.set i a):=by
 have o:=Enc.len ha
 have g:(i+1)*Enc.sz α≤L.length*Enc.sz α:=Sw _ hi
 rw[Sb,SJ]at g
 have p:=h.1
 have b:(xs.take (i*Enc.sz α)).length=i*Enc.sz α:=by rw[Sr];omega
 refine⟨by simp only[F',SE,b,I'];omega,?_⟩
 intro j x f
 rw[SR]at f
 by_cases k:i=j
 ·subst k
  rw[D' rfl,D' hi]at f
  obtain rfl:a=x:=by simpa using f
  refine⟨us,ha,fun q u c=>?_⟩
  have d:q<us.length:=(Sq.1 c).1
  rw[Se,SL (by omega),b,show i*Enc.sz α+q-i*Enc.sz α=q by omega,SK d]
  exact c
 ·rw[A' k]at f
  obtain⟨vs,n,s⟩:=h.2 j x f
  refine⟨vs,n,fun q u c=>?_⟩
  have l:=s q u c
  have d:q<vs.length:=(Sq.1 c).1
  have r:=Enc.len n
  rcases Nat.lt_or_gt_of_ne k with hlt|hgt
  ·have:(i+1)*Enc.sz α≤j*Enc.sz α:=Sw _ hlt
   rw[Sb,SJ]at this
   rw[SL (by rw[F',b];omega),F',b,Tl,show i*Enc.sz α+us.length+(j*Enc.sz α+q-(i*Enc.sz α+us.length))=j*Enc.sz α+q by omega]
   exact l
  ·have:(j+1)*Enc.sz α≤i*Enc.sz α:=Sw _ hgt
   rw[Sb,SJ]at this
   rw[Se,SK (by rw[b];omega),List.getElem?_take_of_lt (by omega)]
   exact l
theorem PU{α:Type}[Enc α]{x y:Operand}{t e:TypeId}{k i sz:Nat}{v u:Value}{xs us:List Value}{L:List α}{a:α}(hz:∀w,(sizeOf t).run P w= .ok sz w)
 (hx:ev σ x=some (.pointer (some (rp v (i*Enc.sz α))))) (hy:ev σ y=some u) (hc:u.cells=us.toArray) (hl:us.length=sz) (h0:0<us.length) (hH:A7 H k=some (row v e (Enc.sz α) L.length xs)) (hi:i<L.length)
 (hL:RdL m xs L) (ha:Enc.rd m us a) (h1:∀u∈us,u.oneCell'=true):
 OpTo P B m H σ (.store t x y) ty (fun _ m' H'=>m'=m∧∃ys,RdL m ys (L.set i a)∧H'=H4 H k (row v e (Enc.sz α) (L.set i a).length ys)):=
 .ofRun trivial (D1 rfl hx hy) fun w f o c _=>by
  have g:=Enc.len ha
  have b:i*Enc.sz α+us.length≤xs.length:=by
   have:(i+1)*Enc.sz α≤L.length*Enc.sz α:=Sw _ hi
   rw[Sb,SJ]at this
   rw[hL.1];omega
  obtain⟨w',l,d⟩:=Cd (P:=P) (off:=i*Enc.sz α) f hH h0 b h1
  refine⟨undef,w',.inr ⟨by simp[execOp,c,A6 hx,A6 hy,Instr.storeAt,Instr.sureAddr,storeVar,hz,hc,hl,l],rfl⟩,m,_,⟨rfl,_,hL.set ha hi,rfl⟩,?_⟩
  rw[I'];exact d
theorem RdL.append{α:Type}[Enc α]{m:Mem}{xs ys:List Value}{K L:List α}(h:RdL m xs K)(h':RdL m ys L):RdL m (xs++ys) (K++L):=by
 refine⟨by rw[F',F',h.1,h'.1,Sb],fun i x a=>?_⟩
 rw[Ue]at a
 split at a
 ·obtain⟨vs,d,f⟩:=h.2 i x a
  exact⟨vs,d,fun j u c=>by have b:=f j u c;rw[SK (Sq.1 b).1];exact b⟩
 ·rename_i hle
  obtain⟨vs,d,f⟩:=h'.2 _ x a
  refine⟨vs,d,fun j u c=>?_⟩
  have b:=f j u c
  have g:K.length*Enc.sz α≤i*Enc.sz α:=Sw _ (by omega)
  have k:=h.1
  have l:(i-K.length)*Enc.sz α=i*Enc.sz α-K.length*Enc.sz α:=Nat.sub_mul _ _ _
  rw[SL (by omega),show i*Enc.sz α+j-xs.length=(i-K.length)*Enc.sz α+j by omega]
  exact b
theorem B2U{t e:TypeId}{sz bytes:Nat}{z:Value}(hS:SlT P t e sz bytes z):
 OpTo P B m H σ (.buildSlice t 0 #[]) ty (fun v m' H'=>m'=m∧H'=row v e sz 0 []::H):=
 .ofRun trivial (by intro x c;simp[Op.operands]at c) fun w a o b _=>by
  refine⟨.slice (some ⟨w.heap.size,0,none⟩) 0 0,w.alloc (.cells #[] e),.inl ?_,m,_,⟨rfl,rfl⟩,
   a.push (Ext.alloc w _) _ ?_ (by simp[row,Value.ownBlock]) (by simp[row,Value.ownBlock])⟩
  ·simp[execOp,b,Instr.buildSlice,hS.u,hS.s,Instr.fill,newRow,show Array.range 0=#[]from rfl]
  ·exact⟨by simp,.inr ⟨w.heap.size,0,#[],rfl,EF _,heap_alloc_new w _,E' _,EF _,by simp,by simp⟩⟩
theorem A4C{α:Type}[Enc α]{s x:Operand}{t e:TypeId}{bytes:Nat}{z:Value}(hS:SlT P t e (Enc.sz α) bytes z){k:Nat}{v u:Value}{xs:List Value}{K L:List α}
 (hs:ev σ s=some v) (hx:ev σ x=some u) (hL:Sl m u L) (hH:A7 H k=some (row v e (Enc.sz α) K.length xs)) (hK:RdL m xs K)
 (hb:(K.length+L.length)*bytes≤140737488355328) (h63:K.length+L.length≤9223372036854775807):
 OpTo P B m H σ (.call (Call.mk (.builtin .append) #[s,x] #[t,t])) ty (fun U m' H'=>m'=m∧∃ys,RdL m ys (K++L)∧H'=H4 H k (row U e (Enc.sz α) (K++L).length ys)):=
 by
 have this:=T.appendS (P:=P) (B:=B) (m:=m) (ty:=ty) hS hs hx hL hH hb h63
 refine⟨this.sel,this.defd,fun M B w b o ac next Q c d k'=>this.run M B w b o ac next Q c d fun U m' H' w' h a=>k' U m' H' w' ⟨h.1,?_⟩ a⟩
 obtain⟨_,news,f,g⟩:=h
 exact⟨_,hK.append f,by rw[g,F']⟩
end
section
variable{M:Option Nat}{P:Program}{N:Nat}{ops:Array Oper}{Q:Exit→Act→World→Prop}{B:Base}{m:Mem}{H:List Ent}{σ:B6}{rest:List Oper}
 {d:Nat} {op:Op} {ty:TypeId} {pos:String} {after:Array Edge}
theorem B5C{F:Value→List Value→List Ent}{R:List Value→Prop}(h:OpTo P B m H σ op ty (fun v m' H'=>m'=m∧∃ys,R ys∧H'=F v ys))(hd:d<N)
 (k:∀v ys,R ys→WL M P N ops Q B m (F v ys) ((d,v)::σ) rest):WL M P N ops Q B m H σ (⟨some d,op,ty,pos,after,none⟩::rest):=
 WL.to h hd fun v m' H' ⟨a,ys,b,c⟩=>by subst a;subst c;exact k v ys b
theorem B3l{F:List Value→List Ent}{R:List Value→Prop}(h:OpTo P B m H σ op ty (fun _ m' H'=>m'=m∧∃ys,R ys∧H'=F ys))
 (k:∀ys,R ys→WL M P N ops Q B m (F ys) σ rest):WL M P N ops Q B m H σ (⟨none,op,ty,pos,after,none⟩::rest):=
 A0H h fun _ m' H' ⟨a,ys,b,c⟩=>by subst a;subst c;exact k ys b
variable{i:Nat}{g:Option (Nat×Bool)}{must:Bool}{π:Plan}{piv non:List Nat}{KK:Mem→List Ent→B6→Prop}
theorem B7P{F:Value→List Value→List Ent}{R:List Value→Prop}(ho:ops[i]?=some ⟨some d,op,ty,pos,after,g⟩)(hp:piv.contains i=true)(hn:non.contains i=true)(hg:N6 ops σ ⟨some d,op,ty,pos,after,g⟩=some true)
 (h:OpTo P B m H σ op ty (fun v m' H'=>m'=m∧∃ys,R ys∧H'=F v ys)) (hd:d<N) (k:∀v ys,R ys→DW P B N ops piv non KK false π m (F v ys) ((d,v)::σ)):DW P B N ops piv non KK must (.cons i π) m H σ:=
 DW.to ho hp hg h hd (fun a=>by rw[hn]at a;cases a) (fun _ _ _ h=>by rw[h.1];exact Mem.le_refl _) fun v m' H' ⟨b,ys,c,f⟩=>by subst b;subst f;exact k v ys c
theorem A5D{F:List Value→List Ent}{R:List Value→Prop}(ho:ops[i]?=some ⟨none,op,ty,pos,after,g⟩)(hp:piv.contains i=true)(hn:non.contains i=true)(hg:N6 ops σ ⟨none,op,ty,pos,after,g⟩=some true)
 (h:OpTo P B m H σ op ty (fun _ m' H'=>m'=m∧∃ys,R ys∧H'=F ys)) (k:∀ys,R ys→DW P B N ops piv non KK false π m (F ys) σ):DW P B N ops piv non KK must (.cons i π) m H σ:=
 ⟨_,ho,(fun e b=>by cases b),.inr (.inr ⟨hp,hg,_,h,(fun a=>by rw[hn]at a;cases a),(fun _ _ _ h=>by rw[h.1];exact Mem.le_refl _),fun v m' H' ⟨c,ys,d,f⟩=>by subst c;subst f;exact k ys d⟩)⟩
end
section
variable{P:Program}{B:Base}{m:Mem}{σ:B6}{ty:TypeId}
theorem B7M{α:Type}[Enc α]{x y:Operand}{t e:TypeId}{v:Value}{L:List α}{i:Int}(l:Nat)(ht:P.underlying t=some (.slice e))
 (hz:∀w,(sizeOf e).run P w= .ok (Enc.sz α) w) (hx:ev σ x=some v) (hy:ev σ y=some (.int .i64 i)) (hs:Sl m v L) (hi:i=l) (h1:l≤L.length):
 ∃v,(∀m' H',m.le m'→OpX P B m' H' σ (.slice t x (some y) none none) ty v)∧Sl m v (L.drop l):=by
 subst hi
 obtain⟨b,n,c,rfl,k,q,p⟩:=hs.sliced h1 (E' _)
 have d:P.elem t=e:=by simp[Program.elem,ht]
 have a:P.underlying t=some (.slice (P.elem t)):=by rw[d];exact ht
 refine⟨_root_.Go.sliced b l n c (Enc.sz α),fun m' H' _=>.ofRun trivial (Fg (l:=[x,y]) rfl (by simp only[Sn,forall_eq_or_imp,Td,false_imp_iff,implies_true,and_true];exact⟨⟨_,hx⟩,⟨_,hy⟩⟩)) fun w _ o g _=>?_,by
  have:=p c (by omega) (E' _);rw[←k]at this;rwa [Tk (by simp;omega)]at this⟩
 have f:=run_slice_l (P:=P) w t b n c a .i64 l (by omega) (by omega)
 rw[←run_sliceAt_slice (P:=P) w t _ _ _ _ a,d,hz]at f
 simp[execOp,g,A6 hx,A6 hy,f]
end
theorem A3q{R:List Ent}{x:Ent}:∀{H:List Ent} {k:Nat} {e:Ent},A7 H k=some e→H4 (H++R) k x=H4 H k x++R
 | [],_,_,h=>by simp[A7]at h
 |_::_,0,_,_=>rfl
 |y::H,k+1,e,h=>by rw[SM,H4,H4,SM,A3q (H:=H) (k:=k) (e:=e) h]
section
variable{B:Base}{m:Mem}{H:List Ent}{σ:B6}
theorem A3j{N:Nat}{K:Act→World→Prop}{k g n c h sz:Nat}{e:TypeId}{xs:List Value}(hH:A7 H k=some (row (.slice (some ⟨g,0,none⟩) n c) e sz n xs))(h1:n≤h)(h2:h≤c)
 (kk:∀zs:List Value,zs.length=(h-n)*sz→WK N B m (H4 H k (row (.slice (some ⟨g,0,none⟩) h c) e sz h (xs++zs))) σ K):WK N B m H σ K:=fun Ds w p a s=>by
 have q:=S8 (R:=marks Ds) hH
 have r:(row (.slice (some ⟨g,0,none⟩) n c) e sz n xs).holds w:=C3 p q
 have f:=r.1
 rcases r.2 with⟨hv,_⟩|⟨g',cap,cur,hv,hb,h3,h4,h5,h6,h7⟩
 ·cases hv
 ·cases hv
  have u:h*sz≤c*sz:=Sw _ h2
  have v:n*sz≤h*sz:=Sw _ h1
  have t:(h-n)*sz=h*sz-n*sz:=Nat.sub_mul _ _ _
  have d:cur.toList.take (h*sz)=xs++(cur.toList.drop (n*sz)).take ((h-n)*sz):=by
   rw[←h7,t,←List.take_add,show n*sz+(h*sz-n*sz)=h*sz by omega]
  have l:((cur.toList.drop (n*sz)).take ((h-n)*sz)).length=(h-n)*sz:=by
   rw[Sr,SE,Tc];omega
  refine kk _ l Ds w ?_ a s
  rw[←A3q hH]
  refine p.change q rfl rfl rfl (E' _) (fun _ _ _=>rfl) ⟨by rw[F',l,f];omega,.inr ⟨g,c,cur,rfl,hb,h3,h2,h5,h6,d⟩⟩ (fun b o=>.inl (by simpa[row,Value.ownBlock]using o)) (by simp[row,Value.ownBlock])
end
section
variable{P:Program}{B:Base}{m:Mem}{H:List Ent}{σ:B6}{ty:TypeId}
theorem X.cap{x:Operand}{t e:TypeId}{p:Option Addr}{n c:Nat}(hu:∀w,(underlying t).run P w= .ok (.slice e) w)(hx:ev σ x=some (.slice p n c)):
 OpX P B m H σ (.call (Call.mk (.builtin .cap) #[x] #[t])) ty (.int .i64 c):=
 .ofRun trivial (L6 (by simp[Op.operands,Call.operands]) hx) fun w _ o a _=>by
  simp[execOp,a,resolve,invoke,builtin,Builtin.cap_,A6 hx,hu,goInt]
theorem B3M{x y:Operand}{t e:TypeId}{g n c sz:Nat}{q:Int}(k:Nat)(ht:P.underlying t=some (.slice e))(hz:∀w,(sizeOf e).run P w= .ok sz w)
 (hx:ev σ x=some (.slice (some ⟨g,0,none⟩) n c)) (hy:ev σ y=some (.int .i64 q)) (hq:q=k) (h0:0<c) (h1:k≤c):
 OpX P B m H σ (.slice t x none (some y) none) ty (.slice (some ⟨g,0,none⟩) k c):=by
 subst hq
 have a:∀j:Nat,(⟨g,0,none⟩:Addr).add j=⟨g,j,none⟩:=fun j=>by rw[C9 rfl,SC]
 have f:P.elem t=e:=by simp[Program.elem,ht]
 have b:P.underlying t=some (.slice (P.elem t)):=by rw[f];exact ht
 refine .ofRun trivial (Fg (l:=[x,y]) rfl (by simp only[Sn,forall_eq_or_imp,Td,false_imp_iff,implies_true,and_true];exact⟨⟨_,hx⟩,⟨_,hy⟩⟩)) fun w _ o p _=>?_
 have d:=run_slice_h (P:=P) w t (some ⟨g,0,none⟩) n c b .i64 k (by omega) (by omega)
 rw[←run_sliceAt_slice (P:=P) w t _ _ _ _ b,f,hz]at d
 simp only[Result.andThen_ok,_root_.Go.sliced,Ui,A' (show¬c=0 by omega),Ty,a,SU,Ts]at d
 simp[execOp,p,A6 hx,A6 hy,d]
end
section
variable{P:Program}{B:Base}{m:Mem}{H:List Ent}{σ:B6}{ty:TypeId}
theorem Jz{x:Operand}{t e:TypeId}{p:Option Addr}{n c:Nat}{q:Int}(hu:∀w,(underlying t).run P w= .ok (.slice e) w)(hx:ev σ x=some (.slice p n c))(hq:q=n):
 OpX P B m H σ (.call (Call.mk (.builtin .len) #[x] #[t])) ty (.int .i64 q):=
 .ofRun trivial (L6 (by simp[Op.operands,Call.operands]) hx) fun w _ o a _=>by
  subst hq
  simp[execOp,a,resolve,invoke,builtin,Builtin.len_,A6 hx,hu,goInt]
theorem B1Y{x y:Operand}{t e:TypeId}{g n c sz:Nat}{q:Int}(k:Nat)(ht:P.underlying t=some (.slice e))(hz:∀w,(sizeOf e).run P w= .ok sz w)
 (hx:ev σ x=some (.slice (some ⟨g,0,none⟩) n c)) (hy:ev σ y=some (.int .i64 q)) (hq:q=k) (h1:k≤n):
 OpX P B m H σ (.slice t x (some y) none none) ty (_root_.Go.sliced (some ⟨g,0,none⟩) k n c sz):=by
 subst hq
 have d:P.elem t=e:=by simp[Program.elem,ht]
 have a:P.underlying t=some (.slice (P.elem t)):=by rw[d];exact ht
 refine .ofRun trivial (Fg (l:=[x,y]) rfl (by simp only[Sn,forall_eq_or_imp,Td,false_imp_iff,implies_true,and_true];exact⟨⟨_,hx⟩,⟨_,hy⟩⟩)) fun w _ o f _=>?_
 have b:=run_slice_l (P:=P) w t (some ⟨g,0,none⟩) n c a .i64 k (by omega) (by omega)
 rw[←run_sliceAt_slice (P:=P) w t _ _ _ _ a,d,hz]at b
 simp only[Result.andThen_ok,Ui]at b
 simp[execOp,f,A6 hx,A6 hy,b]
theorem X.ext{f:FuncId}{l:List Operand}{ts:Array TypeId}{vs:List Value}{v:Value}(hl:AS σ l=some vs)(hc:∀w,St B m H w→(callFunc f vs.toArray).run P w= .ok (.value v) w):
 OpX P B m H σ (.call (Call.mk (.value (.func f)) l.toArray ts)) ty v:=
 ⟨trivial,BB rfl hl,fun w b o a next Q c p k=>by
  have d:=(Ci hl).1
  have g:=hc w b
  have n:(execOp (T4 σ) o).run P w= .ok (.value v) w:=by
   simp[execOp,c,resolve,Deferred.ofValue,T4,ev,invoke]
   rw[show l.map (fun x=>T4 σ x)=vs from d]
   simpa using g
  rw[n];exact k w (Ext.refl w)⟩
theorem Li{P:Program}{w:World}(hw:St B m H w){tS tR e:TypeId}(ht:P.underlying tS=some (.slice e)){sz:Nat}(hz:∀w,(Go.sizeOf e).run P w= .ok sz w)
 {j k b g n c off la ca lb cb:Nat} {T e':TypeId} {cs xs:List Value} {sz':Nat} (hb:A7 H j=some (blk b T cs)) (hr:A7 H k=some (row (.slice (some ⟨g,0,none⟩) n c) e' sz' n xs)) (hn:0<n) (hs:0<sz') (hne:b≠g):
 (Extern.SlicesOverlaps.overlaps #[tS,tS] #[tR] #[.slice (some ⟨b,0,none⟩) la ca,.slice (some ⟨g,off,none⟩) lb cb]).run P w= .ok (.bool false) w:=by
 have d:w.heap[b]?=some (.cells cs.toArray T (0,0)):=C3 hw hb
 have l:(row (.slice (some ⟨g,0,none⟩) n c) e' sz' n xs).holds w:=C3 hw hr
 obtain⟨g',cap,cur,a,o,p,q⟩:∃g' cap cur,(Value.slice (some ⟨g,0,none⟩) n c)= .slice (some ⟨g',0,none⟩) n cap∧w.heap[g']?=some (.cells cur e' (0,0))∧n≤cap∧cur.size=cap*sz':=by
  rcases l.2 with⟨a,_⟩|⟨g',cap,cur,a,_,h3,h4,_,h6,_⟩
  ·cases a
  ·exact⟨g',cap,cur,a,h3,h4,h6⟩
 cases a
 have f:0<c*sz':=TP (by omega) hs
 exact Lib.run_overlaps_apart w tS tR e ht sz hz ⟨b,0,none⟩ ⟨g,off,none⟩ la ca lb cb hne T e' cs.length cur.size (by simp[World.shape?,d]) (by simp[World.shape?,o]) (by omega) (by simp[World.frozen?,d]) (by simp[World.frozen?,d])
theorem A6j{w:World}(hw:St B m H w){j k b g:Nat}{n c:Nat}{T e':TypeId}{cs xs:List Value}{sz':Nat}(hb:A7 H j=some (blk b T cs))(hr:A7 H k=some (row (.slice (some ⟨g,0,none⟩) n c) e' sz' n xs))(hjk:j≠k):b≠g:=by
 intro p
 subst p
 have key:∀(H:List Ent) (j k:Nat) (x y:Ent),A7 H j=some x→A7 H k=some y→j≠k→(B8 H).Nodup→b∈x.ids→b ∉ y.ids:=by
  intro H
  induction H with
  |nil=>intro j k x y h;simp[A7]at h
  |cons z H ih=>
   intro j k x y f l hjk o a d
   simp only[B8]at o
   obtain⟨t,s,r⟩:=Ss.1 o
   have mem:∀(H:List Ent) (q:Nat) (x:Ent),A7 H q=some x→x∈H:=by
    intro H
    induction H with
    |nil=>intro q x h;simp[A7]at h
    |cons z H ih=>
     intro q x h
     cases q with
     |zero=>simp[A7]at h;simp[h]
     |succ q=>exact Sg _ (ih q x h)
   cases j with
   |zero=>
    cases k with
    |zero=>exact hjk rfl
    |succ k=>
     simp only[A7]at f l;cases f
     exact r b a b (BO (mem H k y l) d) rfl
   |succ j=>
    cases k with
    |zero=>
     simp only[A7]at f l;cases l
     exact r b d b (BO (mem H j x f) a) rfl
    |succ k=>exact ih j k x y f l (fun e=>hjk (by rw[e])) s a d
 exact key H j k _ _ hb hr hjk hw.nodup (by simp[blk]) (by simp[row,Value.ownBlock])
theorem A5i{s x:Operand}{t e ti:TypeId}{sz bytes:Nat}{z:Value}(hS:SlT P t e sz bytes z)(hi64:P.underlying ti=some (.int .i64)){k g l n c:Nat}{q:Int}{xs:List Value}(p:Nat)
 (hs:ev σ s=some (.slice (some ⟨g,0,none⟩) l c)) (hx:ev σ x=some (.int .i64 q)) (hq:q=p) (hH:A7 H k=some (row (.slice (some ⟨g,0,none⟩) n c) e sz n xs)) (hln:l≤n) (hp:0<p) (hsz:0<sz) (hgrow:c<l+p)
 (hb:(l+p)*bytes≤140737488355328) (h63:l+p≤9223372036854775807) {N:Nat} (hN:l+p=N):
 OpTo P B m H σ (.call (Call.mk (.builtin .append) #[s,x] #[t,ti])) ty (fun v m' H'=>m'=m∧∃g' c' zs,v= .slice (some ⟨g',0,none⟩) N c'∧N≤c'∧zs.length=p*sz∧H'=row v e sz N (xs.take (l*sz)++zs)::H):=
 .ofRun trivial (D1 (by simp[Op.operands,Call.operands]) hs hx) fun w M o S _=>by
  subst hq;subst hN
  obtain⟨i,hi,hz,K,L⟩:=hS.hi
  have b:=hS.hz
  have ht:=hS.ht
  subst K;subst L
  have Q:(row (.slice (some ⟨g,0,none⟩) n c) e i.size n xs).holds w:=C3 M hH
  have E:=Q.1
  have T:l*i.size≤xs.length:=by rw[E];exact Sw _ hln
  have d:(xs.take (l*i.size)).length=l*i.size:=by rw[Sr];omega
  have holds:∀j u,(xs.take (l*i.size))[j]?=some u→w.drew.cell? ((⟨g,0,none⟩:Addr).add j)=some u:=by
   intro j u D
   rw[SI]at D
   split at D
   ·have:=Q.cells (g:=g) rfl j u D
    simpa using this
   ·cases D
  have F:=run_firstCells_some (P:=P) w.drew i.size l ⟨g,0,none⟩ l c (xs.take (l*i.size)) d holds
  have V:(p:Int)*(i.bytes:Int)≤281474976710656:=by
   have X:p*i.bytes≤(l+p)*i.bytes:=Sw _ (by omega)
   have R:((p*i.bytes:Nat):Int)≤281474976710656:=by omega
   rw[Int.natCast_mul]at R;exact R
  have G:IntKind.i64.wrap (p:Int)=p:=P7 (by omega) (by omega)
  have I:¬(l+p≤c):=by omega
  have f:¬(9223372036854775807<((l:Int)+(p:Int))):=by omega
  have r:¬(281474976710656<Builtin.nextslicecap (l+p) c*i.bytes):=by have:=growslice_fits (need:=l+p) (old:=c) (by omega) hb;omega
  have y:¬((p:Int)<0):=by omega
  have A:¬(281474976710656<(p:Int)*(i.bytes:Int)):=by omega
  have C:=grownCap_ge w (l+p) c e
  refine⟨.slice (some ⟨w.heap.size,0,none⟩) (l+p) (grownCap w (l+p) c e),w.drew.alloc (.cells ((xs.take (l*i.size)).toArray++Builtin.zeroCells z.cells p++Builtin.zeroCells z.cells (grownCap w (l+p) c e-(l+p))) e),.inl ?_,m,_,
   ⟨rfl,w.heap.size,grownCap w (l+p) c e,(Builtin.zeroCells z.cells p).toList,rfl,C,?_,rfl⟩,?_⟩
  ·have W:(Builtin.append_ #[t,ti] o.type #[.slice (some ⟨g,0,none⟩) l c,.int .i64 (p:Int)]).run P w= .ok (.slice (some ⟨w.heap.size,0,none⟩) (l+p) (grownCap w (l+p) c e)) (w.drew.alloc (.cells ((xs.take (l*i.size)).toArray++Builtin.zeroCells z.cells p++Builtin.zeroCells z.cells (grownCap w (l+p) c e-(l+p))) e)):=by
    have J:max (p:Int) 0=p:=by omega
    simp[Builtin.append_,run_underlying ht,run_underlying hi64,sizeOf,typeInfo,zeroValue,hi,hz,asInt,asIntOf,G,y,A,I,f,r,Question.forced,F,newRow,grownCap,J]
    intro h;exact absurd h (Nat.ne_of_gt (TP hp hsz))
   simp only[execOp,S]
   simp[resolve,invoke,builtin,A6 hs,A6 hx,W]
  ·simp[size_zeroCells,b]
  ·refine M.push (Ext.trans (Ext.drew w) (Ext.alloc w.drew _)) _ ?_ (by simp[row,Value.ownBlock]) (by simp[row,Value.ownBlock])
   have a:(xs.take (l*i.size)++(Builtin.zeroCells z.cells p).toList).length=(l+p)*i.size:=by
    rw[F',d,Tc,size_zeroCells,b,Sb]
   refine⟨a,.inr ⟨w.heap.size,_,_,rfl,EF _,heap_alloc_new w.drew _,C,grownCap_le_maxLen w (l+p) c e (by simpa[maxLen]using h63),?_,?_⟩⟩
   ·simp only[Us,Ub,size_zeroCells,b,d,←Sb]
    congr 1
    omega
   ·simp only[Ut]
    rw[←a]
    exact TC
theorem A1y{k g n c n' off:Nat}{e:TypeId}{sz:Nat}{xs cs:List Value}(hH:A7 H k=some (row (.slice (some ⟨g,0,none⟩) n c) e sz n' xs))(hc:∀j v,cs[j]?=some v→xs[off+j]?=some v):
 ∀B w,St B m H w→∀j v,cs[j]?=some v→w.cell? ((⟨g,off,none⟩:Addr).add j)=some v:=fun B w b j v d=>by
 have f:=(FK (C3 b hH) (hc j v d)).1
 have a:(⟨g,off,none⟩:Addr).add j=rp (.slice (some ⟨g,0,none⟩) n c) (off+j):=by rw[C9 rfl];rfl
 rw[a];exact f
end
section
variable{α:Type}[Flat α]
theorem Pz{L:List α}{k:Nat}(hk:k≤L.length):∀j v,(flat (L.drop k))[j]?=some v→(flat L)[k*Flat.n α+j]?=some v:=fun j v a=>by
 rw[←Hz hk,Tl]at a;exact a
theorem A3L{L:List α}{k:Nat}{zs:List Value}(hk:k≤L.length):∀j v,(flat (L.drop k))[j]?=some v→(flat L++zs)[k*Flat.n α+j]?=some v:=fun j v b=>by
 have a:=Pz hk j v b
 rw[SK (Sq.1 a).1];exact a
theorem Og{v:Value}{e:TypeId}{n:Nat}{xs:List Value}{L:List α}(hn:n=L.length)(hx:xs=flat L):row v e (Flat.n α) n xs=A5 v e L:=by subst hn;subst hx;rfl
theorem OW(a:α)(L:List α):flat (a::L)=Flat.enc a++flat L:=by simp[flat]
omit [Flat α]in
theorem JO{L:List α}{h:α}{k:Nat}(hk:k≤L.length):L.length+1=(L.take k++h::L.drop k).length:=by simp;omega
theorem A9q{L:List α}{h:α}{k:Nat}{zs:List Value}(hk:k≤L.length)(hz:zs.length=(L.length+1-k)*Flat.n α):
 ((((flat L).take (k*Flat.n α)++zs).take (k*Flat.n α)++Flat.enc h++((flat L).take (k*Flat.n α)++zs).drop (k*Flat.n α+(Flat.enc h).length)).take ((k+1)*Flat.n α)++flat (L.drop k)++
  (((flat L).take (k*Flat.n α)++zs).take (k*Flat.n α)++Flat.enc h++((flat L).take (k*Flat.n α)++zs).drop (k*Flat.n α+(Flat.enc h).length)).drop ((k+1)*Flat.n α+(flat (L.drop k)).length))=flat (L.take k++h::L.drop k):=by
 rw[Fe hk]
 have a:(flat (L.take k)).length=k*Flat.n α:=by rw[F8,Sr,SQ hk]
 have b:=Flat.len h
 have f:(k+1)*Flat.n α=k*Flat.n α+Flat.n α:=by rw[Sb,SJ]
 have g:(L.length+1-k)*Flat.n α=(L.length-k)*Flat.n α+Flat.n α:=by rw[show L.length+1-k=(L.length-k)+1 by omega,Sb,SJ]
 have c:(flat (L.drop k)).length=(L.length-k)*Flat.n α:=by rw[F8,SE]
 obtain⟨A,d⟩:∃A,A=flat (L.take k):=⟨_,rfl⟩
 obtain⟨C,hC⟩:∃C,C=flat (L.drop k):=⟨_,rfl⟩
 rw[S2,OW,←d,←hC]
 rw[←d]at a;rw[←hC]at c
 have l:(A++zs).take (k*Flat.n α)=A:=by rw[←a];exact TC
 have m:(A++zs).drop (k*Flat.n α+(Flat.enc h).length)=zs.drop (Flat.n α):=by rw[b,←a,←Uh,List.drop_left]
 rw[l,m]
 have o:(A++Flat.enc h++zs.drop (Flat.n α)).take ((k+1)*Flat.n α)=A++Flat.enc h:=by
  rw[show(k+1)*Flat.n α=(A++Flat.enc h).length by rw[F',a,b,f]];exact TC
 have p:(A++Flat.enc h++zs.drop (Flat.n α)).drop ((k+1)*Flat.n α+C.length)=[]:=by
  refine SV ?_
  rw[F',F',SE,a,b,hz,c,g]
  omega
 rw[o,p,SO,Se]
theorem A6G{L:List α}{h:α}{k:Nat}{zs:List Value}(hk:k≤L.length)(hz:zs.length=(L.length+1-L.length)*Flat.n α):
 (((flat L++zs).take ((k+1)*Flat.n α)++flat (L.drop k)++(flat L++zs).drop ((k+1)*Flat.n α+(flat (L.drop k)).length)).take (k*Flat.n α)++Flat.enc h++
  ((flat L++zs).take ((k+1)*Flat.n α)++flat (L.drop k)++(flat L++zs).drop ((k+1)*Flat.n α+(flat (L.drop k)).length)).drop (k*Flat.n α+(Flat.enc h).length))=flat (L.take k++h::L.drop k):=by
 have a:=Flat.len h
 have b:(k+1)*Flat.n α=k*Flat.n α+Flat.n α:=by rw[Sb,SJ]
 have o:(flat (L.drop k)).length=(L.length-k)*Flat.n α:=by rw[F8,SE]
 have c:(flat L).length=L.length*Flat.n α:=F8 L
 have p:(L.length-k)*Flat.n α+k*Flat.n α=L.length*Flat.n α:=by rw[←Sb];congr 1;omega
 have d:zs.length=Flat.n α:=by rw[hz,show L.length+1-L.length=1 by omega,SJ]
 have q:(flat L++zs).length=L.length*Flat.n α+Flat.n α:=by rw[F',c,d]
 have f:(flat L++zs).drop ((k+1)*Flat.n α+(flat (L.drop k)).length)=[]:=SV (by omega)
 have g:((flat L++zs).take ((k+1)*Flat.n α)).length=(k+1)*Flat.n α:=by rw[Sr];omega
 rw[f,SO,S2,OW,a,←b]
 have l:((flat L++zs).take ((k+1)*Flat.n α)++flat (L.drop k)).drop ((k+1)*Flat.n α)=flat (L.drop k):=by
  have:= @List.drop_left _ ((flat L++zs).take ((k+1)*Flat.n α)) (flat (L.drop k))
  rwa [g]at this
 have m:((flat L++zs).take ((k+1)*Flat.n α)++flat (L.drop k)).take (k*Flat.n α)=flat (L.take k):=by
  rw[Ug (by omega),List.take_take,SQ (by omega),Ug (by omega),Fe hk]
 rw[l,m,Se]
end
end Go.Kx
