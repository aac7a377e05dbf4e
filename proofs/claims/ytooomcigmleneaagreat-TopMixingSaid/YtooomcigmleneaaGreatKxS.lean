import Derived.Test.YtooomcigmleneaaGreatKxQ
import Derived.Lib.Overlaps
set_option linter.all false
namespace Go.Kx
open Go
section
variable{P:Program}{B:Base}{m:Mem}{H:List Ent}{σ:B5}{ty:TypeId}
theorem RdL.set{α:Type}[Enc α]{m:Mem}{xs us:List Value}{L:List α}{a:α}{i:Nat}(h:RdL m xs L)(ha:Enc.rd m us a)(hi:i<L.length):
 RdL m (xs.take (i*Enc.sz α)++us++xs.drop (i*Enc.sz α+us.length)) (L.set i a):=by
 have hus:=Enc.len ha
 have hle:(i+1)*Enc.sz α≤L.length*Enc.sz α:=Nat.mul_le_mul_right _ hi
 rw[Nat.add_mul,Nat.one_mul]at hle
 have hxl:=h.1
 have htl:(xs.take (i*Enc.sz α)).length=i*Enc.sz α:=by rw[List.length_take];omega
 refine⟨by simp only[List.length_append,List.length_drop,htl,List.length_set];omega,?_⟩
 intro j x hx
 rw[List.getElem?_set]at hx
 by_cases hj:i=j
 ·subst hj
  rw[if_pos rfl,if_pos hi]at hx
  obtain rfl:a=x:=by simpa using hx
  refine⟨us,ha,fun q u hq=>?_⟩
  have hql:q<us.length:=(List.getElem?_eq_some_iff.1 hq).1
  rw[List.append_assoc,List.getElem?_append_right (by omega),htl,show i*Enc.sz α+q-i*Enc.sz α=q by omega,List.getElem?_append_left hql]
  exact hq
 ·rw[if_neg hj]at hx
  obtain⟨vs,h1,h2⟩:=h.2 j x hx
  refine⟨vs,h1,fun q u hq=>?_⟩
  have h3:=h2 q u hq
  have hql:q<vs.length:=(List.getElem?_eq_some_iff.1 hq).1
  have hvs:=Enc.len h1
  rcases Nat.lt_or_gt_of_ne hj with hlt|hgt
  ·have:(i+1)*Enc.sz α≤j*Enc.sz α:=Nat.mul_le_mul_right _ hlt
   rw[Nat.add_mul,Nat.one_mul]at this
   rw[List.getElem?_append_right (by rw[List.length_append,htl];omega),List.length_append,htl,List.getElem?_drop,show i*Enc.sz α+us.length+(j*Enc.sz α+q-(i*Enc.sz α+us.length))=j*Enc.sz α+q by omega]
   exact h3
  ·have:(j+1)*Enc.sz α≤i*Enc.sz α:=Nat.mul_le_mul_right _ hgt
   rw[Nat.add_mul,Nat.one_mul]at this
   rw[List.append_assoc,List.getElem?_append_left (by rw[htl];omega),List.getElem?_take_of_lt (by omega)]
   exact h3
theorem B2f{α:Type}[Enc α]{x y:Operand}{t e:TypeId}{k i sz:Nat}{v u:Value}{xs us:List Value}{L:List α}{a:α}(hz:∀w,(sizeOf t).run P w= .ok sz w)
 (hx:ev σ x=some (.pointer (some (rp v (i*Enc.sz α))))) (hy:ev σ y=some u) (hc:u.cells=us.toArray) (hl:us.length=sz) (h0:0<us.length) (hH:B2 H k=some (row v e (Enc.sz α) L.length xs)) (hi:i<L.length)
 (hL:RdL m xs L) (ha:Enc.rd m us a) (h1:∀u∈us,u.oneCell'=true):
 OpTo P B m H σ (.store t x y) ty (fun _ m' H'=>m'=m∧∃ys,RdL m ys (L.set i a)∧H'=H4 H k (row v e (Enc.sz α) (L.set i a).length ys)):=
 .ofRun trivial (D0 rfl hx hy) fun w hw o hop _=>by
  have hus:=Enc.len ha
  have hlen:i*Enc.sz α+us.length≤xs.length:=by
   have:(i+1)*Enc.sz α≤L.length*Enc.sz α:=Nat.mul_le_mul_right _ hi
   rw[Nat.add_mul,Nat.one_mul]at this
   rw[hL.1];omega
  obtain⟨w',hr,hs'⟩:=A2D (P:=P) (off:=i*Enc.sz α) hw hH h0 hlen h1
  refine⟨undef,w',.inr ⟨by simp[execOp,hop,A6 hx,A6 hy,Instr.storeAt,Instr.sureAddr,storeVar,hz,hc,hl,hr],rfl⟩,m,_,⟨rfl,_,hL.set ha hi,rfl⟩,?_⟩
  rw[List.length_set];exact hs'
theorem RdL.append{α:Type}[Enc α]{m:Mem}{xs ys:List Value}{K L:List α}(h:RdL m xs K)(h':RdL m ys L):RdL m (xs++ys) (K++L):=by
 refine⟨by rw[List.length_append,List.length_append,h.1,h'.1,Nat.add_mul],fun i x hx=>?_⟩
 rw[List.getElem?_append]at hx
 split at hx
 ·obtain⟨vs,h1,h2⟩:=h.2 i x hx
  exact⟨vs,h1,fun j u hj=>by have h3:=h2 j u hj;rw[List.getElem?_append_left (List.getElem?_eq_some_iff.1 h3).1];exact h3⟩
 ·rename_i hle
  obtain⟨vs,h1,h2⟩:=h'.2 _ x hx
  refine⟨vs,h1,fun j u hj=>?_⟩
  have h3:=h2 j u hj
  have h4:K.length*Enc.sz α≤i*Enc.sz α:=Nat.mul_le_mul_right _ (by omega)
  have h5:=h.1
  have h6:(i-K.length)*Enc.sz α=i*Enc.sz α-K.length*Enc.sz α:=Nat.sub_mul _ _ _
  rw[List.getElem?_append_right (by omega),show i*Enc.sz α+j-xs.length=(i-K.length)*Enc.sz α+j by omega]
  exact h3
theorem C3M{t e:TypeId}{sz bytes:Nat}{z:Value}(hS:SlT P t e sz bytes z):
 OpTo P B m H σ (.buildSlice t 0 #[]) ty (fun v m' H'=>m'=m∧H'=row v e sz 0 []::H):=
 .ofRun trivial (by intro x hx;simp[Op.operands]at hx) fun w hw o ho _=>by
  refine⟨.slice (some ⟨w.heap.size,0,none⟩) 0 0,w.alloc (.cells #[] e),.inl ?_,m,_,⟨rfl,rfl⟩,
   hw.push (Ext.alloc w _) _ ?_ (by simp[row,Value.ownBlock]) (by simp[row,Value.ownBlock])⟩
  ·simp[execOp,ho,Instr.buildSlice,hS.u,hS.s,Instr.fill,newRow,show Array.range 0=#[]from rfl]
  ·exact⟨by simp,.inr ⟨w.heap.size,0,#[],rfl,Nat.zero_le _,heap_alloc_new w _,Nat.le_refl _,Nat.zero_le _,by simp,by simp⟩⟩
theorem B9p{α:Type}[Enc α]{s x:Operand}{t e:TypeId}{bytes:Nat}{z:Value}(hS:SlT P t e (Enc.sz α) bytes z){k:Nat}{v u:Value}{xs:List Value}{K L:List α}
 (hs:ev σ s=some v) (hx:ev σ x=some u) (hL:Sl m u L) (hH:B2 H k=some (row v e (Enc.sz α) K.length xs)) (hK:RdL m xs K)
 (hb:(K.length+L.length)*bytes≤140737488355328) (h63:K.length+L.length≤9223372036854775807):
 OpTo P B m H σ (.call (Call.mk (.builtin .append) #[s,x] #[t,t])) ty (fun v' m' H'=>m'=m∧∃ys,RdL m ys (K++L)∧H'=H4 H k (row v' e (Enc.sz α) (K++L).length ys)):=
 by
 have this:=T.appendS (P:=P) (B:=B) (m:=m) (ty:=ty) hS hs hx hL hH hb h63
 refine⟨this.sel,this.defd,fun M B w hw o ac next Q ho ht k'=>this.run M B w hw o ac next Q ho ht fun v' m' H' w' h hst=>k' v' m' H' w' ⟨h.1,?_⟩ hst⟩
 obtain⟨_,news,h1,h2⟩:=h
 exact⟨_,hK.append h1,by rw[h2,List.length_append]⟩
end
section
variable{M:Option Nat}{P:Program}{N:Nat}{ops:Array Oper}{Q:Exit→Act→World→Prop}{B:Base}{m:Mem}{H:List Ent}{σ:B5}{rest:List Oper}
 {d:Nat} {op:Op} {ty:TypeId} {pos:String} {after:Array Edge}
theorem C7m{F:Value→List Value→List Ent}{R:List Value→Prop}(h:OpTo P B m H σ op ty (fun v m' H'=>m'=m∧∃ys,R ys∧H'=F v ys))(hd:d<N)
 (k:∀v ys,R ys→WL M P N ops Q B m (F v ys) ((d,v)::σ) rest):WL M P N ops Q B m H σ (⟨some d,op,ty,pos,after,none⟩::rest):=
 O4 h hd fun v m' H' ⟨h1,ys,h2,h3⟩=>by subst h1;subst h3;exact k v ys h2
theorem C6j{F:List Value→List Ent}{R:List Value→Prop}(h:OpTo P B m H σ op ty (fun _ m' H'=>m'=m∧∃ys,R ys∧H'=F ys))
 (k:∀ys,R ys→WL M P N ops Q B m (F ys) σ rest):WL M P N ops Q B m H σ (⟨none,op,ty,pos,after,none⟩::rest):=
 B3g h fun _ m' H' ⟨h1,ys,h2,h3⟩=>by subst h1;subst h3;exact k ys h2
variable{i:Nat}{g:Option (Nat×Bool)}{must:Bool}{π:Plan}{piv non:List Nat}{KK:Mem→List Ent→B5→Prop}
theorem C9a{F:Value→List Value→List Ent}{R:List Value→Prop}(ho:ops[i]?=some ⟨some d,op,ty,pos,after,g⟩)(hp:piv.contains i=true)(hn:non.contains i=true)(hg:M6 ops σ ⟨some d,op,ty,pos,after,g⟩=some true)
 (h:OpTo P B m H σ op ty (fun v m' H'=>m'=m∧∃ys,R ys∧H'=F v ys)) (hd:d<N) (k:∀v ys,R ys→DW P B N ops piv non KK false π m (F v ys) ((d,v)::σ)):DW P B N ops piv non KK must (.cons i π) m H σ:=
 A1A ho hp hg h hd (fun h'=>by rw[hn]at h';cases h') (fun _ _ _ h=>by rw[h.1];exact Mem.le_refl _) fun v m' H' ⟨h1,ys,h2,h3⟩=>by subst h1;subst h3;exact k v ys h2
theorem B7L{F:List Value→List Ent}{R:List Value→Prop}(ho:ops[i]?=some ⟨none,op,ty,pos,after,g⟩)(hp:piv.contains i=true)(hn:non.contains i=true)(hg:M6 ops σ ⟨none,op,ty,pos,after,g⟩=some true)
 (h:OpTo P B m H σ op ty (fun _ m' H'=>m'=m∧∃ys,R ys∧H'=F ys)) (k:∀ys,R ys→DW P B N ops piv non KK false π m (F ys) σ):DW P B N ops piv non KK must (.cons i π) m H σ:=
 ⟨_,ho,(fun e he=>by cases he),.inr (.inr ⟨hp,hg,_,h,(fun h'=>by rw[hn]at h';cases h'),(fun _ _ _ h=>by rw[h.1];exact Mem.le_refl _),fun v m' H' ⟨h1,ys,h2,h3⟩=>by subst h1;subst h3;exact k ys h2⟩)⟩
end
section
variable{P:Program}{B:Base}{m:Mem}{σ:B5}{ty:TypeId}
theorem C8S{α:Type}[Enc α]{x y:Operand}{t e:TypeId}{v:Value}{L:List α}{i:Int}(l:Nat)(ht:P.underlying t=some (.slice e))
 (hz:∀w,(sizeOf e).run P w= .ok (Enc.sz α) w) (hx:ev σ x=some v) (hy:ev σ y=some (.int .i64 i)) (hs:Sl m v L) (hi:i=l) (h1:l≤L.length):
 ∃v,(∀m' H',m.le m'→OpX P B m' H' σ (.slice t x (some y) none none) ty v)∧Sl m v (L.drop l):=by
 subst hi
 obtain⟨b,n,c,rfl,hn,hc,hk⟩:=hs.sliced h1 (Nat.le_refl _)
 have he:P.elem t=e:=by simp[Program.elem,ht]
 have ht':P.underlying t=some (.slice (P.elem t)):=by rw[he];exact ht
 refine⟨_root_.Go.sliced b l n c (Enc.sz α),fun m' H' _=>.ofRun trivial (A4e (l:=[x,y]) rfl (by simp only[List.mem_cons,forall_eq_or_imp,List.not_mem_nil,false_imp_iff,implies_true,and_true];exact⟨⟨_,hx⟩,⟨_,hy⟩⟩)) fun w _ o ho _=>?_,by
  have:=hk c (by omega) (Nat.le_refl _);rw[←hn]at this;rwa [List.take_of_length_le (by simp;omega)]at this⟩
 have hr:=run_slice_l (P:=P) w t b n c ht' .i64 l (by omega) (by omega)
 rw[←run_sliceAt_slice (P:=P) w t _ _ _ _ ht',he,hz]at hr
 simp[execOp,ho,A6 hx,A6 hy,hr]
end
theorem B6h{R:List Ent}{x:Ent}:∀{H:List Ent} {k:Nat} {e:Ent},B2 H k=some e→H4 (H++R) k x=H4 H k x++R
 | [],_,_,h=>by simp[B2]at h
 |_::_,0,_,_=>rfl
 |y::H,k+1,e,h=>by rw[List.cons_append,H4,H4,List.cons_append,B6h (H:=H) (k:=k) (e:=e) h]
section
variable{B:Base}{m:Mem}{H:List Ent}{σ:B5}
theorem B6r{N:Nat}{K:Act→World→Prop}{k g n c h sz:Nat}{e:TypeId}{xs:List Value}(hH:B2 H k=some (row (.slice (some ⟨g,0,none⟩) n c) e sz n xs))(h1:n≤h)(h2:h≤c)
 (kk:∀zs:List Value,zs.length=(h-n)*sz→WK N B m (H4 H k (row (.slice (some ⟨g,0,none⟩) h c) e sz h (xs++zs))) σ K):WK N B m H σ K:=fun Ds w hw a ha=>by
 have hf:=U3 (R:=marks Ds) hH
 have hh:(row (.slice (some ⟨g,0,none⟩) n c) e sz n xs).holds w:=C1 hw hf
 have hlen:=hh.1
 rcases hh.2 with⟨hv,_⟩|⟨g',cap,cur,hv,hb,h3,h4,h5,h6,h7⟩
 ·cases hv
 ·cases hv
  have hm:h*sz≤c*sz:=Nat.mul_le_mul_right _ h2
  have hn:n*sz≤h*sz:=Nat.mul_le_mul_right _ h1
  have hd:(h-n)*sz=h*sz-n*sz:=Nat.sub_mul _ _ _
  have hsplit:cur.toList.take (h*sz)=xs++(cur.toList.drop (n*sz)).take ((h-n)*sz):=by
   rw[←h7,hd,←List.take_add,show n*sz+(h*sz-n*sz)=h*sz by omega]
  have hzl:((cur.toList.drop (n*sz)).take ((h-n)*sz)).length=(h-n)*sz:=by
   rw[List.length_take,List.length_drop,Array.length_toList];omega
  refine kk _ hzl Ds w ?_ a ha
  rw[←B6h hH]
  refine hw.change hf rfl rfl rfl (Nat.le_refl _) (fun _ _ _=>rfl) ⟨by rw[List.length_append,hzl,hlen];omega,.inr ⟨g,c,cur,rfl,hb,h3,h2,h5,h6,hsplit⟩⟩ (fun b hb'=>.inl (by simpa[row,Value.ownBlock]using hb')) (by simp[row,Value.ownBlock])
end
section
variable{P:Program}{B:Base}{m:Mem}{H:List Ent}{σ:B5}{ty:TypeId}
theorem X.cap{x:Operand}{t e:TypeId}{p:Option Addr}{n c:Nat}(hu:∀w,(underlying t).run P w= .ok (.slice e) w)(hx:ev σ x=some (.slice p n c)):
 OpX P B m H σ (.call (Call.mk (.builtin .cap) #[x] #[t])) ty (.int .i64 c):=
 .ofRun trivial (I8 (by simp[Op.operands,Call.operands]) hx) fun w _ o ho _=>by
  simp[execOp,ho,resolve,invoke,builtin,Builtin.cap_,A6 hx,hu,goInt]
theorem C5n{x y:Operand}{t e:TypeId}{g n c sz:Nat}{q:Int}(k:Nat)(ht:P.underlying t=some (.slice e))(hz:∀w,(sizeOf e).run P w= .ok sz w)
 (hx:ev σ x=some (.slice (some ⟨g,0,none⟩) n c)) (hy:ev σ y=some (.int .i64 q)) (hq:q=k) (h0:0<c) (h1:k≤c):
 OpX P B m H σ (.slice t x none (some y) none) ty (.slice (some ⟨g,0,none⟩) k c):=by
 subst hq
 have hadd:∀j:Nat,(⟨g,0,none⟩:Addr).add j=⟨g,j,none⟩:=fun j=>by rw[B9 rfl,Nat.zero_add]
 have he:P.elem t=e:=by simp[Program.elem,ht]
 have ht':P.underlying t=some (.slice (P.elem t)):=by rw[he];exact ht
 refine .ofRun trivial (A4e (l:=[x,y]) rfl (by simp only[List.mem_cons,forall_eq_or_imp,List.not_mem_nil,false_imp_iff,implies_true,and_true];exact⟨⟨_,hx⟩,⟨_,hy⟩⟩)) fun w _ o ho _=>?_
 have hr:=run_slice_h (P:=P) w t (some ⟨g,0,none⟩) n c ht' .i64 k (by omega) (by omega)
 rw[←run_sliceAt_slice (P:=P) w t _ _ _ _ ht',he,hz]at hr
 simp only[Result.andThen_ok,_root_.Go.sliced,Int.toNat_natCast,if_neg (show¬c=0 by omega),Option.map_some,hadd,Nat.zero_mul,Nat.sub_zero]at hr
 simp[execOp,ho,A6 hx,A6 hy,hr]
end
end Go.Kx
namespace Go.Kx
open Go
section
variable{P:Program}{B:Base}{m:Mem}{H:List Ent}{σ:B5}{ty:TypeId}
theorem A7n{x:Operand}{t e:TypeId}{p:Option Addr}{n c:Nat}{q:Int}(hu:∀w,(underlying t).run P w= .ok (.slice e) w)(hx:ev σ x=some (.slice p n c))(hq:q=n):
 OpX P B m H σ (.call (Call.mk (.builtin .len) #[x] #[t])) ty (.int .i64 q):=
 .ofRun trivial (I8 (by simp[Op.operands,Call.operands]) hx) fun w _ o ho _=>by
  subst hq
  simp[execOp,ho,resolve,invoke,builtin,Builtin.len_,A6 hx,hu,goInt]
theorem C3q{x y:Operand}{t e:TypeId}{g n c sz:Nat}{q:Int}(k:Nat)(ht:P.underlying t=some (.slice e))(hz:∀w,(sizeOf e).run P w= .ok sz w)
 (hx:ev σ x=some (.slice (some ⟨g,0,none⟩) n c)) (hy:ev σ y=some (.int .i64 q)) (hq:q=k) (h1:k≤n):
 OpX P B m H σ (.slice t x (some y) none none) ty (_root_.Go.sliced (some ⟨g,0,none⟩) k n c sz):=by
 subst hq
 have he:P.elem t=e:=by simp[Program.elem,ht]
 have ht':P.underlying t=some (.slice (P.elem t)):=by rw[he];exact ht
 refine .ofRun trivial (A4e (l:=[x,y]) rfl (by simp only[List.mem_cons,forall_eq_or_imp,List.not_mem_nil,false_imp_iff,implies_true,and_true];exact⟨⟨_,hx⟩,⟨_,hy⟩⟩)) fun w _ o ho _=>?_
 have hr:=run_slice_l (P:=P) w t (some ⟨g,0,none⟩) n c ht' .i64 k (by omega) (by omega)
 rw[←run_sliceAt_slice (P:=P) w t _ _ _ _ ht',he,hz]at hr
 simp only[Result.andThen_ok,Int.toNat_natCast]at hr
 simp[execOp,ho,A6 hx,A6 hy,hr]
theorem X.ext{f:FuncId}{l:List Operand}{ts:Array TypeId}{vs:List Value}{v:Value}(hl:Z5 σ l=some vs)(hc:∀w,St B m H w→(callFunc f vs.toArray).run P w= .ok (.value v) w):
 OpX P B m H σ (.call (Call.mk (.value (.func f)) l.toArray ts)) ty v:=
 ⟨trivial,A0j rfl hl,fun w hw o a next Q ho ht k=>by
  have h1:=(A1B hl).1
  have h2:=hc w hw
  have hr:(execOp (S2 σ) o).run P w= .ok (.value v) w:=by
   simp[execOp,ho,resolve,Deferred.ofValue,S2,ev,invoke]
   rw[show l.map (fun x=>S2 σ x)=vs from h1]
   simpa using h2
  rw[hr];exact k w (Ext.refl w)⟩
theorem A9f{P:Program}{w:World}(hw:St B m H w){tS tR e:TypeId}(ht:P.underlying tS=some (.slice e)){sz:Nat}(hz:∀w,(Go.sizeOf e).run P w= .ok sz w)
 {j k b g n c off la ca lb cb:Nat} {T e':TypeId} {cs xs:List Value} {sz':Nat} (hb:B2 H j=some (blk b T cs)) (hr:B2 H k=some (row (.slice (some ⟨g,0,none⟩) n c) e' sz' n xs)) (hn:0<n) (hs:0<sz') (hne:b≠g):
 (Extern.SlicesOverlaps.overlaps #[tS,tS] #[tR] #[.slice (some ⟨b,0,none⟩) la ca,.slice (some ⟨g,off,none⟩) lb cb]).run P w= .ok (.bool false) w:=by
 have h1:w.heap[b]?=some (.cells cs.toArray T (0,0)):=C1 hw hb
 have hh:(row (.slice (some ⟨g,0,none⟩) n c) e' sz' n xs).holds w:=C1 hw hr
 obtain⟨g',cap,cur,hv,hg,hnc,hcs⟩:∃g' cap cur,(Value.slice (some ⟨g,0,none⟩) n c)= .slice (some ⟨g',0,none⟩) n cap∧w.heap[g']?=some (.cells cur e' (0,0))∧n≤cap∧cur.size=cap*sz':=by
  rcases hh.2 with⟨hv,_⟩|⟨g',cap,cur,hv,_,h3,h4,_,h6,_⟩
  ·cases hv
  ·exact⟨g',cap,cur,hv,h3,h4,h6⟩
 cases hv
 have hpos:0<c*sz':=Nat.mul_pos (by omega) hs
 exact Lib.run_overlaps_apart w tS tR e ht sz hz ⟨b,0,none⟩ ⟨g,off,none⟩ la ca lb cb hne T e' cs.length cur.size (by simp[World.shape?,h1]) (by simp[World.shape?,hg]) (by omega) (by simp[World.frozen?,h1]) (by simp[World.frozen?,h1])
theorem B7K{w:World}(hw:St B m H w){j k b g:Nat}{n c:Nat}{T e':TypeId}{cs xs:List Value}{sz':Nat}(hb:B2 H j=some (blk b T cs))(hr:B2 H k=some (row (.slice (some ⟨g,0,none⟩) n c) e' sz' n xs))(hjk:j≠k):b≠g:=by
 intro hbg
 subst hbg
 have key:∀(H:List Ent) (j k:Nat) (x y:Ent),B2 H j=some x→B2 H k=some y→j≠k→(B7 H).Nodup→b∈x.ids→b ∉ y.ids:=by
  intro H
  induction H with
  |nil=>intro j k x y h;simp[B2]at h
  |cons z H ih=>
   intro j k x y hx hy hjk hnd hbx hby
   simp only[B7]at hnd
   obtain⟨h1,h2,h3⟩:=List.nodup_append.1 hnd
   have mem:∀(H:List Ent) (q:Nat) (x:Ent),B2 H q=some x→x∈H:=by
    intro H
    induction H with
    |nil=>intro q x h;simp[B2]at h
    |cons z H ih=>
     intro q x h
     cases q with
     |zero=>simp[B2]at h;simp[h]
     |succ q=>exact List.mem_cons_of_mem _ (ih q x h)
   cases j with
   |zero=>
    cases k with
    |zero=>exact hjk rfl
    |succ k=>
     simp only[B2]at hx hy;cases hx
     exact h3 b hbx b (A2n (mem H k y hy) hby) rfl
   |succ j=>
    cases k with
    |zero=>
     simp only[B2]at hx hy;cases hy
     exact h3 b hby b (A2n (mem H j x hx) hbx) rfl
    |succ k=>exact ih j k x y hx hy (fun e=>hjk (by rw[e])) h2 hbx hby
 exact key H j k _ _ hb hr hjk hw.nodup (by simp[blk]) (by simp[row,Value.ownBlock])
theorem B9m{s x:Operand}{t e ti:TypeId}{sz bytes:Nat}{z:Value}(hS:SlT P t e sz bytes z)(hi64:P.underlying ti=some (.int .i64)){k g l n c:Nat}{q:Int}{xs:List Value}(p:Nat)
 (hs:ev σ s=some (.slice (some ⟨g,0,none⟩) l c)) (hx:ev σ x=some (.int .i64 q)) (hq:q=p) (hH:B2 H k=some (row (.slice (some ⟨g,0,none⟩) n c) e sz n xs)) (hln:l≤n) (hp:0<p) (hsz:0<sz) (hgrow:c<l+p)
 (hb:(l+p)*bytes≤140737488355328) (h63:l+p≤9223372036854775807) {N:Nat} (hN:l+p=N):
 OpTo P B m H σ (.call (Call.mk (.builtin .append) #[s,x] #[t,ti])) ty (fun v m' H'=>m'=m∧∃g' c' zs,v= .slice (some ⟨g',0,none⟩) N c'∧N≤c'∧zs.length=p*sz∧H'=row v e sz N (xs.take (l*sz)++zs)::H):=
 .ofRun trivial (D0 (by simp[Op.operands,Call.operands]) hs hx) fun w hw o ho _=>by
  subst hq;subst hN
  obtain⟨i,hi,hz,hs',hby⟩:=hS.hi
  have hzs:=hS.hz
  have ht:=hS.ht
  subst hs';subst hby
  have hh:(row (.slice (some ⟨g,0,none⟩) n c) e i.size n xs).holds w:=C1 hw hH
  have hxl:=hh.1
  have hlx:l*i.size≤xs.length:=by rw[hxl];exact Nat.mul_le_mul_right _ hln
  have hol:(xs.take (l*i.size)).length=l*i.size:=by rw[List.length_take];omega
  have holds:∀j u,(xs.take (l*i.size))[j]?=some u→w.drew.cell? ((⟨g,0,none⟩:Addr).add j)=some u:=by
   intro j u hu
   rw[List.getElem?_take]at hu
   split at hu
   ·have:=hh.cells (g:=g) rfl j u hu
    simpa using this
   ·cases hu
  have hfo:=run_firstCells_some (P:=P) w.drew i.size l ⟨g,0,none⟩ l c (xs.take (l*i.size)) hol holds
  have hpb:(p:Int)*(i.bytes:Int)≤281474976710656:=by
   have h1:p*i.bytes≤(l+p)*i.bytes:=Nat.mul_le_mul_right _ (by omega)
   have h2:((p*i.bytes:Nat):Int)≤281474976710656:=by omega
   rw[Int.natCast_mul]at h2;exact h2
  have hw1:IntKind.i64.wrap (p:Int)=p:=M9 (by omega) (by omega)
  have hg1:¬(l+p≤c):=by omega
  have h63':¬(9223372036854775807<((l:Int)+(p:Int))):=by omega
  have h48':¬(281474976710656<Builtin.nextslicecap (l+p) c*i.bytes):=by have:=growslice_fits (need:=l+p) (old:=c) (by omega) hb;omega
  have hneg:¬((p:Int)<0):=by omega
  have hpb':¬(281474976710656<(p:Int)*(i.bytes:Int)):=by omega
  have hge:=grownCap_ge w (l+p) c e
  refine⟨.slice (some ⟨w.heap.size,0,none⟩) (l+p) (grownCap w (l+p) c e),w.drew.alloc (.cells ((xs.take (l*i.size)).toArray++Builtin.zeroCells z.cells p++Builtin.zeroCells z.cells (grownCap w (l+p) c e-(l+p))) e),.inl ?_,m,_,
   ⟨rfl,w.heap.size,grownCap w (l+p) c e,(Builtin.zeroCells z.cells p).toList,rfl,hge,?_,rfl⟩,?_⟩
  ·have hr:(Builtin.append_ #[t,ti] o.type #[.slice (some ⟨g,0,none⟩) l c,.int .i64 (p:Int)]).run P w= .ok (.slice (some ⟨w.heap.size,0,none⟩) (l+p) (grownCap w (l+p) c e)) (w.drew.alloc (.cells ((xs.take (l*i.size)).toArray++Builtin.zeroCells z.cells p++Builtin.zeroCells z.cells (grownCap w (l+p) c e-(l+p))) e)):=by
    have hmx:max (p:Int) 0=p:=by omega
    simp[Builtin.append_,run_underlying ht,run_underlying hi64,sizeOf,typeInfo,zeroValue,hi,hz,asInt,asIntOf,hw1,hneg,hpb',hg1,h63',h48',Question.forced,hfo,newRow,grownCap,hmx]
    intro h;exact absurd h (Nat.ne_of_gt (Nat.mul_pos hp hsz))
   simp only[execOp,ho]
   simp[resolve,invoke,builtin,A6 hs,A6 hx,hr]
  ·simp[size_zeroCells,hzs]
  ·refine hw.push (Ext.trans (Ext.drew w) (Ext.alloc w.drew _)) _ ?_ (by simp[row,Value.ownBlock]) (by simp[row,Value.ownBlock])
   have hlen:(xs.take (l*i.size)++(Builtin.zeroCells z.cells p).toList).length=(l+p)*i.size:=by
    rw[List.length_append,hol,Array.length_toList,size_zeroCells,hzs,Nat.add_mul]
   refine⟨hlen,.inr ⟨w.heap.size,_,_,rfl,Nat.zero_le _,heap_alloc_new w.drew _,hge,grownCap_le_maxLen w (l+p) c e (by simpa[maxLen]using h63),?_,?_⟩⟩
   ·simp only[Array.size_append,List.size_toArray,size_zeroCells,hzs,hol,←Nat.add_mul]
    congr 1
    omega
   ·simp only[Array.toList_append]
    rw[←hlen]
    exact List.take_left
theorem B5G{k g n c n' off:Nat}{e:TypeId}{sz:Nat}{xs cs:List Value}(hH:B2 H k=some (row (.slice (some ⟨g,0,none⟩) n c) e sz n' xs))(hc:∀j v,cs[j]?=some v→xs[off+j]?=some v):
 ∀B w,St B m H w→∀j v,cs[j]?=some v→w.cell? ((⟨g,off,none⟩:Addr).add j)=some v:=fun B w hw j v hj=>by
 have h3:=(A4O (C1 hw hH) (hc j v hj)).1
 have hadd:(⟨g,off,none⟩:Addr).add j=rp (.slice (some ⟨g,0,none⟩) n c) (off+j):=by rw[B9 rfl];rfl
 rw[hadd];exact h3
end
section
variable{α:Type}[Flat α]
theorem B2c{L:List α}{k:Nat}(hk:k≤L.length):∀j v,(flat (L.drop k))[j]?=some v→(flat L)[k*Flat.n α+j]?=some v:=fun j v hj=>by
 rw[←A6a hk,List.getElem?_drop]at hj;exact hj
theorem B6O{L:List α}{k:Nat}{zs:List Value}(hk:k≤L.length):∀j v,(flat (L.drop k))[j]?=some v→(flat L++zs)[k*Flat.n α+j]?=some v:=fun j v hj=>by
 have h1:=B2c hk j v hj
 rw[List.getElem?_append_left (List.getElem?_eq_some_iff.1 h1).1];exact h1
theorem B1f{v:Value}{e:TypeId}{n:Nat}{xs:List Value}{L:List α}(hn:n=L.length)(hx:xs=flat L):row v e (Flat.n α) n xs=A5 v e L:=by subst hn;subst hx;rfl
theorem B1L(a:α)(L:List α):flat (a::L)=Flat.enc a++flat L:=by simp[flat]
omit [Flat α]in
theorem A7P{L:List α}{h:α}{k:Nat}(hk:k≤L.length):L.length+1=(L.take k++h::L.drop k).length:=by simp;omega
theorem C1M{L:List α}{h:α}{k:Nat}{zs:List Value}(hk:k≤L.length)(hz:zs.length=(L.length+1-k)*Flat.n α):
 ((((flat L).take (k*Flat.n α)++zs).take (k*Flat.n α)++Flat.enc h++((flat L).take (k*Flat.n α)++zs).drop (k*Flat.n α+(Flat.enc h).length)).take ((k+1)*Flat.n α)++flat (L.drop k)++
  (((flat L).take (k*Flat.n α)++zs).take (k*Flat.n α)++Flat.enc h++((flat L).take (k*Flat.n α)++zs).drop (k*Flat.n α+(Flat.enc h).length)).drop ((k+1)*Flat.n α+(flat (L.drop k)).length))=flat (L.take k++h::L.drop k):=by
 rw[A3Z hk]
 have h1:(flat (L.take k)).length=k*Flat.n α:=by rw[E7,List.length_take,Nat.min_eq_left hk]
 have h2:=Flat.len h
 have h3:(k+1)*Flat.n α=k*Flat.n α+Flat.n α:=by rw[Nat.add_mul,Nat.one_mul]
 have h4:(L.length+1-k)*Flat.n α=(L.length-k)*Flat.n α+Flat.n α:=by rw[show L.length+1-k=(L.length-k)+1 by omega,Nat.add_mul,Nat.one_mul]
 have h5:(flat (L.drop k)).length=(L.length-k)*Flat.n α:=by rw[E7,List.length_drop]
 obtain⟨A,hA⟩:∃A,A=flat (L.take k):=⟨_,rfl⟩
 obtain⟨C,hC⟩:∃C,C=flat (L.drop k):=⟨_,rfl⟩
 rw[P8,B1L,←hA,←hC]
 rw[←hA]at h1;rw[←hC]at h5
 have t1:(A++zs).take (k*Flat.n α)=A:=by rw[←h1];exact List.take_left
 have t2:(A++zs).drop (k*Flat.n α+(Flat.enc h).length)=zs.drop (Flat.n α):=by rw[h2,←h1,←List.drop_drop,List.drop_left]
 rw[t1,t2]
 have t3:(A++Flat.enc h++zs.drop (Flat.n α)).take ((k+1)*Flat.n α)=A++Flat.enc h:=by
  rw[show(k+1)*Flat.n α=(A++Flat.enc h).length by rw[List.length_append,h1,h2,h3]];exact List.take_left
 have t4:(A++Flat.enc h++zs.drop (Flat.n α)).drop ((k+1)*Flat.n α+C.length)=[]:=by
  refine List.drop_eq_nil_of_le ?_
  rw[List.length_append,List.length_append,List.length_drop,h1,h2,hz,h5,h4]
  omega
 rw[t3,t4,List.append_nil,List.append_assoc]
theorem B8Q{L:List α}{h:α}{k:Nat}{zs:List Value}(hk:k≤L.length)(hz:zs.length=(L.length+1-L.length)*Flat.n α):
 (((flat L++zs).take ((k+1)*Flat.n α)++flat (L.drop k)++(flat L++zs).drop ((k+1)*Flat.n α+(flat (L.drop k)).length)).take (k*Flat.n α)++Flat.enc h++
  ((flat L++zs).take ((k+1)*Flat.n α)++flat (L.drop k)++(flat L++zs).drop ((k+1)*Flat.n α+(flat (L.drop k)).length)).drop (k*Flat.n α+(Flat.enc h).length))=flat (L.take k++h::L.drop k):=by
 have h2:=Flat.len h
 have h3:(k+1)*Flat.n α=k*Flat.n α+Flat.n α:=by rw[Nat.add_mul,Nat.one_mul]
 have h5:(flat (L.drop k)).length=(L.length-k)*Flat.n α:=by rw[E7,List.length_drop]
 have h6:(flat L).length=L.length*Flat.n α:=E7 L
 have h7:(L.length-k)*Flat.n α+k*Flat.n α=L.length*Flat.n α:=by rw[←Nat.add_mul];congr 1;omega
 have h8:zs.length=Flat.n α:=by rw[hz,show L.length+1-L.length=1 by omega,Nat.one_mul]
 have h9:(flat L++zs).length=L.length*Flat.n α+Flat.n α:=by rw[List.length_append,h6,h8]
 have t1:(flat L++zs).drop ((k+1)*Flat.n α+(flat (L.drop k)).length)=[]:=List.drop_eq_nil_of_le (by omega)
 have t2:((flat L++zs).take ((k+1)*Flat.n α)).length=(k+1)*Flat.n α:=by rw[List.length_take];omega
 rw[t1,List.append_nil,P8,B1L,h2,←h3]
 have t3:((flat L++zs).take ((k+1)*Flat.n α)++flat (L.drop k)).drop ((k+1)*Flat.n α)=flat (L.drop k):=by
  have:= @List.drop_left _ ((flat L++zs).take ((k+1)*Flat.n α)) (flat (L.drop k))
  rwa [t2]at this
 have t4:((flat L++zs).take ((k+1)*Flat.n α)++flat (L.drop k)).take (k*Flat.n α)=flat (L.take k):=by
  rw[List.take_append_of_le_length (by omega),List.take_take,Nat.min_eq_left (by omega),List.take_append_of_le_length (by omega),A3Z hk]
 rw[t3,t4,List.append_assoc]
end
end Go.Kx
