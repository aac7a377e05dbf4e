import Derived.Test.YtooomcigmleneaaGreatKxS
set_option linter.all false
namespace Go.Kx
open Go
section
variable{P:Program}{B:Base}{m:Mem}{H:List Ent}{σ:B6}{ty:TypeId}
theorem A8l{z:Array Value}(hz:∀v∈z.toList,v.oneCell'=true)(h0:0<z.size)(n:Nat):∀v∈(Builtin.zeroCells z n).toList,v.oneCell'=true:=by
 intro v a
 unfold Builtin.zeroCells at a
 rw[Array.toList_map,Sh]at a
 obtain⟨i,_,rfl⟩:=a
 have hi:i%z.size<z.size:=Nat.mod_lt _ h0
 rw[getElem!_pos z _ hi]
 exact hz _ (by rw[←Array.getElem_toList hi];exact List.getElem_mem _)
theorem T.clear{x:Operand}{t e e':TypeId}{g n c sz bytes k q l j:Nat}{z:Value}{xs:List Value}(hS:SlT P t e sz bytes z)(hz1:∀v∈z.cells.toList,v.oneCell'=true)(h0:0<sz)
 (hx:ev σ x=some (.slice (some ⟨g,k*sz,none⟩) l q)) (hH:A7 H j=some (row (.slice (some ⟨g,0,none⟩) n c) e' sz n xs)) (hl:k+l=n) (hl0:0<l):
 OpTo P B m H σ (.call (Call.mk (.builtin .clear) #[x] #[t])) ty (fun _ m' H'=>m'=m∧H'=H4 H j (row (.slice (some ⟨g,0,none⟩) n c) e' sz n (xs.take (k*sz)++(Builtin.zeroCells z.cells l).toList))):=
 .ofRun trivial (L6 (by simp[Op.operands,Call.operands]) hx) fun w d o p _=>by
  have r:(row (.slice (some ⟨g,0,none⟩) n c) e' sz n xs).holds w:=C3 d hH
  have s:xs.length=n*sz:=r.1
  have u:(Builtin.zeroCells z.cells l).toList.length=l*sz:=by rw[Tc,size_zeroCells,hS.hz]
  have D:n*sz=k*sz+l*sz:=by rw[←Sb,hl]
  have f:0<l*sz:=TP hl0 h0
  obtain⟨w',C,a⟩:=Cd (P:=P) (off:=k*sz) d hH (us:=(Builtin.zeroCells z.cells l).toList) (by omega) (by omega) (A8l hz1 (by rw[hS.hz];exact h0) l)
  have b:(storeCells ⟨g,k*sz,none⟩ (Builtin.zeroCells z.cells l).toList).run P w= .ok () w':=C
  refine⟨.tuple #[],w',.inl ?_,m,_,⟨rfl,rfl⟩,?_⟩
  ·obtain⟨l',rfl⟩:∃l',l=l'+1:=⟨l-1,by omega⟩
   have y:(Builtin.clear_ #[t] o.type #[.slice (some ⟨g,k*sz,none⟩) (l'+1) q]).run P w= .ok (.tuple #[]) w':=by
    simp[Builtin.clear_,run_underlying hS.ht,hS.zr,b]
   simp only[execOp,p]
   simp[resolve,invoke,builtin,A6 hx,y]
  ·have A:xs.drop (k*sz+(Builtin.zeroCells z.cells l).toList.length)=[]:=SV (by omega)
   rw[A,SO]at a
   exact a
theorem A6m{N:Nat}{K:Act→World→Prop}{k g n c h sz:Nat}{e:TypeId}{xs:List Value}(hH:A7 H k=some (row (.slice (some ⟨g,0,none⟩) n c) e sz n xs))(h1:h≤n)
 (kk:WK N B m (H4 H k (row (.slice (some ⟨g,0,none⟩) h c) e sz h (xs.take (h*sz)))) σ K):WK N B m H σ K:=fun Ds w f a q=>by
 have l:=S8 (R:=marks Ds) hH
 have o:(row (.slice (some ⟨g,0,none⟩) n c) e sz n xs).holds w:=C3 f l
 have p:=o.1
 rcases o.2 with⟨hv,_⟩|⟨g',cap,cur,hv,hb,h3,h4,h5,h6,h7⟩
 ·cases hv
 ·cases hv
  have r:h*sz≤n*sz:=Sw _ h1
  refine kk Ds w ?_ a q
  rw[←A3q hH]
  refine f.change l rfl rfl rfl (E' _) (fun _ _ _=>rfl) ⟨by rw[Sr];omega,.inr ⟨g,c,cur,rfl,hb,h3,by omega,h5,h6,?_⟩⟩ (fun b d=>.inl (by simpa[row,Value.ownBlock]using d)) (by simp[row,Value.ownBlock])
  rw[←h7,List.take_take,SQ r]
end
section
variable{P:Program}{B:Base}{m:Mem}{H:List Ent}{σ:B6}{ty:TypeId}
theorem B0W{x y:Operand}{t e:TypeId}{sz:Nat}(ht:P.underlying t=some (.slice e))(hz:∀w,(sizeOf e).run P w= .ok sz w)
 (hx:ev σ x=some (.slice none 0 0)) (hy:ev σ y=some (.int .i64 0)):
 OpX P B m H σ (.slice t x none (some y) none) ty (.slice none 0 0):=by
 have c:P.elem t=e:=by simp[Program.elem,ht]
 have a:P.underlying t=some (.slice (P.elem t)):=by rw[c];exact ht
 refine .ofRun trivial (Fg (l:=[x,y]) rfl (by simp only[Sn,forall_eq_or_imp,Td,false_imp_iff,implies_true,and_true];exact⟨⟨_,hx⟩,⟨_,hy⟩⟩)) fun w _ o d _=>?_
 have b:=run_slice_h (P:=P) w t none 0 0 a .i64 0 (by omega) (by omega)
 rw[←run_sliceAt_slice (P:=P) w t _ _ _ _ a,c,hz]at b
 simp only[Result.andThen_ok,_root_.Go.sliced,Option.map_none,Int.toNat_zero,SY]at b
 simp[execOp,d,A6 hx,A6 hy,b]
theorem A2M{s x:Operand}{t e ti:TypeId}{sz bytes:Nat}{z:Value}(hS:SlT P t e sz bytes z)(hi64:P.underlying ti=some (.int .i64)){q:Int}(p:Nat)
 (hs:ev σ s=some (.slice none 0 0)) (hx:ev σ x=some (.int .i64 q)) (hq:q=p) (hp:0<p) (hsz:0<sz) (hb:p*bytes≤140737488355328) (h63:p≤9223372036854775807):
 OpTo P B m H σ (.call (Call.mk (.builtin .append) #[s,x] #[t,ti])) ty (fun v m' H'=>m'=m∧∃g' c' zs,v= .slice (some ⟨g',0,none⟩) p c'∧p≤c'∧zs.length=p*sz∧H'=row v e sz p zs::H):=
 .ofRun trivial (D1 (by simp[Op.operands,Call.operands]) hs hx) fun w C o D _=>by
  subst hq
  obtain⟨i,hi,hz,u,y⟩:=hS.hi
  have b:=hS.hz
  have ht:=hS.ht
  subst u;subst y
  have E:(p:Int)*(i.bytes:Int)≤281474976710656:=by
   have A:((p*i.bytes:Nat):Int)≤281474976710656:=by omega
   rw[Int.natCast_mul]at A;exact A
  have l:IntKind.i64.wrap (p:Int)=p:=P7 (by omega) (by omega)
  have n:¬p=0:=by omega
  have c:¬(9223372036854775807<(p:Int)):=by omega
  have d:¬(281474976710656<Builtin.nextslicecap p 0*i.bytes):=by have:=growslice_fits (need:=p) (old:=0) (by omega) hb;omega
  have f:¬((p:Int)<0):=by omega
  have g:¬(281474976710656<(p:Int)*(i.bytes:Int)):=by omega
  have k:=grownCap_ge w p 0 e
  have r:max (p:Int) 0=p:=by omega
  refine⟨.slice (some ⟨w.heap.size,0,none⟩) p (grownCap w p 0 e),w.drew.alloc (.cells (Builtin.zeroCells z.cells p++Builtin.zeroCells z.cells (grownCap w p 0 e-p)) e),.inl ?_,m,_,
   ⟨rfl,w.heap.size,grownCap w p 0 e,(Builtin.zeroCells z.cells p).toList,rfl,k,?_,rfl⟩,?_⟩
  ·have F:(Builtin.append_ #[t,ti] o.type #[.slice none 0 0,.int .i64 (p:Int)]).run P w= .ok (.slice (some ⟨w.heap.size,0,none⟩) p (grownCap w p 0 e)) (w.drew.alloc (.cells (Builtin.zeroCells z.cells p++Builtin.zeroCells z.cells (grownCap w p 0 e-p)) e)):=by
    simp[Builtin.append_,run_underlying ht,run_underlying hi64,sizeOf,typeInfo,zeroValue,hi,hz,asInt,asIntOf,l,f,g,n,c,d,Question.forced,Builtin.firstCells,newRow,grownCap,r]
    intro h;exact absurd h (Nat.ne_of_gt (TP hp hsz))
   simp only[execOp,D]
   simp[resolve,invoke,builtin,A6 hs,A6 hx,F]
  ·simp[size_zeroCells,b]
  ·refine C.push (Ext.trans (Ext.drew w) (Ext.alloc w.drew _)) _ ?_ (by simp[row,Value.ownBlock]) (by simp[row,Value.ownBlock])
   have a:(Builtin.zeroCells z.cells p).toList.length=p*i.size:=by rw[Tc,size_zeroCells,b]
   refine⟨a,.inr ⟨w.heap.size,_,_,rfl,EF _,heap_alloc_new w.drew _,k,grownCap_le_maxLen w p 0 e (by simpa[maxLen]using h63),?_,?_⟩⟩
   ·simp only[Us,size_zeroCells,b,←Sb]
    congr 1
    omega
   ·simp only[Ut]
    rw[←a]
    exact TC
theorem T3{H:List Ent}{x y:Operand}{t:TypeId}{k b off:Nat}{T:TypeId}{cs vs:List Value}(cs':List Value){n:Nat}(hz:∀w,(sizeOf t).run P w= .ok n w)
 (hx:ev σ x=some (.pointer (some ⟨b,off,none⟩))) (hy:ev σ y=some (.agg vs.toArray)) (hH:A7 H k=some (blk b T cs)) (hv:∀v∈vs,v.oneCell'=true) (hn:vs.length=n) (hl:Nat.ble (off+vs.length) cs.length=true)
 (he:cs.take off++vs++cs.drop (off+vs.length)=cs'):
 OpTo P B m H σ (.store t x y) ty (fun _ m' H'=>m'=m∧H'=H4 H k (blk b T cs')):=
 .ofRun trivial (D1 rfl hx hy) fun w d o a _=>by
  obtain⟨w',f,c⟩:=IM (P:=P) d (off:=off) (vs:=vs) hH (J' hl) hv
  refine⟨undef,w',.inr ⟨by simp[execOp,a,A6 hx,A6 hy,Instr.storeAt,Instr.sureAddr,storeVar,hz,Value.cells,hn,f],rfl⟩,m,_,⟨rfl,rfl⟩,?_⟩
  rw[he]at c;exact c
end
instance:Enc RawV:=G8 RawV
instance:FlatEnc RawV:=⟨rfl,fun _ _=>rfl⟩
section
variable{P:Program}{B:Base}{m:Mem}{H:List Ent}{σ:B6}{ty:TypeId}
theorem B2B{x y:Operand}{t e:TypeId}{n sz b off:Nat}{q:Int}(k:Nat)(ht:P.underlying t=some (.array n e))(hz:∀w,(sizeOf e).run P w= .ok sz w)
 (hx:ev σ x=some (.pointer (some ⟨b,off,none⟩))) (hy:ev σ y=some (.int .i64 q)) (hq:q=k) (h1:k<n):OpX P B m H σ (.slice t x (some y) none none) ty (.slice (some ⟨b,off+k*sz,none⟩) (n-k) (n-k)):=by
 subst hq
 have g:P.elem t=e:=by simp[Program.elem,ht]
 have a:P.arrayLen t=n:=by simp[Program.arrayLen,ht]
 have c:P.underlying t=some (.array (P.arrayLen t) (P.elem t)):=by rw[g,a];exact ht
 refine .ofRun trivial (Fg (l:=[x,y]) rfl (by simp only[Sn,forall_eq_or_imp,Td,false_imp_iff,implies_true,and_true];exact⟨⟨_,hx⟩,⟨_,hy⟩⟩)) fun w _ o p _=>?_
 have d:=run_sliceAt_array_l (P:=P) w t ⟨b,off,none⟩ c .i64 k (by omega) (by rw[a];omega)
 rw[g,hz,a]at d
 have f:(⟨b,off,none⟩:Addr).add (k*sz)=⟨b,off+k*sz,none⟩:=C9 rfl _
 simp only[Result.andThen_ok,_root_.Go.slicedAt,Ui,A' (show¬n=k by omega),f]at d
 simp[execOp,p,A6 hx,A6 hy,d]
theorem B2y{x:Operand}{t e:TypeId}{n sz b off:Nat}(ht:P.underlying t=some (.array n e))(hz:∀w,(sizeOf e).run P w= .ok sz w)
 (hx:ev σ x=some (.pointer (some ⟨b,off,none⟩))):OpX P B m H σ (.slice t x none none none) ty (.slice (some ⟨b,off,none⟩) n n):=by
 have f:P.elem t=e:=by simp[Program.elem,ht]
 have g:P.arrayLen t=n:=by simp[Program.arrayLen,ht]
 have a:P.underlying t=some (.array (P.arrayLen t) (P.elem t)):=by rw[f,g];exact ht
 refine .ofRun trivial (L6 rfl hx) fun w _ o k _=>?_
 have c:=run_sliceAt_array_all (P:=P) w t ⟨b,off,none⟩ a
 rw[f,hz,g]at c
 have d:(⟨b,off,none⟩:Addr).add (0*sz)=⟨b,off,none⟩:=by rw[SU];exact C9 rfl _
 simp only[Result.andThen_ok,_root_.Go.slicedAt,d,ite_self,Ts]at c
 simp[execOp,k,A6 hx,c]
theorem A6Q{N:Nat}{K:Act→World→Prop}{k b n:Nat}{T:TypeId}{cs:List Value}(hH:A7 H k=some (blk b T cs))(hl:cs.length=n)(hm:n≤maxLen)
 (kk:WK N B m (H4 H k (row (.slice (some ⟨b,0,none⟩) n n) T 1 n cs)) σ K):WK N B m H σ K:=fun Ds w d a g=>by
 have f:=S8 (R:=marks Ds) hH
 have o:(blk b T cs).holds w:=C3 d f
 refine kk Ds w ?_ a g
 rw[←A3q hH]
 refine d.change f rfl rfl rfl (E' _) (fun _ _ _=>rfl) ⟨by rw[hl,SD],.inr ⟨b,n,cs.toArray,rfl,EF _,o,E' _,hm,by simp[hl],by simp[←hl]⟩⟩ (fun c l=>.inl (by simpa[row,blk,Value.ownBlock]using l)) (by simp[row,Value.ownBlock])
end
def Bk(xs:List Value):Prop:=xs.length=64∧∀u∈xs,u.oneCell'=true
theorem Bk.zero:Bk (List.replicate 64 (.int .u8 0)):=⟨by simp,fun u a=>by rw[(List.mem_replicate.1 a).2];rfl⟩
theorem Bk.set{xs:List Value}(h:Bk xs)(i:Nat){v:Value}(hv:v.oneCell'=true):Bk (xs.set i v):=⟨by rw[I'];exact h.1,fun u a=>by
 rcases Uk a with h1|rfl
 ·exact h.2 u h1
 ·exact hv⟩
theorem Bk.copy{xs cs:List Value}(h:Bk xs){off:Nat}(hl:off+cs.length≤64)(hc:∀v∈cs,v.oneCell'=true):Bk (xs.take off++cs++xs.drop (off+cs.length)):=by
 have b:=h.1
 refine⟨by simp;omega,fun u a=>?_⟩
 rcases Sa.1 a with h2|h2
 ·rcases Sa.1 h2 with h3|h3
  ·exact h.2 u (TQ h3)
  ·exact hc u h3
 ·exact h.2 u (List.mem_of_mem_drop h2)
theorem Bk.part{xs:List Value}:∀j u,xs[j]?=some u→xs[0+j]?=some u:=fun j u a=>by rw[SC];exact a
theorem B1z{P:Program}{B:Base}{m:Mem}{H:List Ent}{σ:B6}{ty:TypeId}{s x:Operand}{t t' e e':TypeId}{g off dl dc n0 c0 n k:Nat}{v:Value}{xs:List Value}{L:List RawV}(ht:P.underlying t=some (.slice e))(hz:∀w,(sizeOf e).run P w= .ok 1 w)
 (hd:ev σ s=some (.slice (some ⟨g,off,none⟩) dl dc)) (hx:ev σ x=some v) (hs:Sl m v L) (hH:A7 H k=some (row (.slice (some ⟨g,0,none⟩) n0 c0) e' 1 n xs)) (hB:Bk xs) (h0:0<L.length) (hL:L.length≤dl) (hfit:off+L.length≤64):
 OpTo P B m H σ (.call (Call.mk (.builtin .copy) #[s,x] #[t,t'])) ty (fun _ m' H'=>m'=m∧∃ys,Bk ys∧H'=H4 H k (row (.slice (some ⟨g,0,none⟩) n0 c0) e' 1 n ys)):=by
 obtain⟨news,q,F,C⟩:=hs.src
 have a:news.length=L.length:=q.1.trans (SD _)
 rcases C with⟨hv,rfl⟩|⟨p,cap,hv,_,g4⟩
 ·simp at h0
 ·have f:∀u∈news,u.oneCell'=true:=fun u r=>by
   obtain⟨j,c,rfl⟩:=List.mem_iff_getElem.1 r
   obtain⟨vs,D,E⟩:=q.2 j L[j] (by simp[show j<L.length by omega])
   have z:vs=[L[j].v]:=D
   subst z
   have l:=E 0 _ rfl
   have A:j*Enc.sz RawV+0=j:=SD j
   rw[A,Sy c]at l
   rw[Uv l];exact(L[j]).one
  have:=DY (P:=P) (B:=B) (m:=m) (H:=H) (σ:=σ) (ty:=ty) (t':=t') news ht hz hd (hx.trans (Sd some hv)) hH (by rw[a,SQ hL,SD]) (fun B w b j u c=>by have:=g4 w b.sub j u c;simpa using this)
   (by rw[a,hB.1];exact hfit) (by omega) f
  exact⟨this.sel,this.defd,fun M B w b o ac next Q y ht k'=>this.run M B w b o ac next Q y ht fun U m' H' w' h d=>k' U m' H' w' ⟨h.2.1,_,hB.copy (by omega) f,h.2.2⟩ d⟩
def Mk(σ:B6):Op→Option (Value×Option Int)
 | .move x=>match ev σ x with
  |some v=>some (v,none)
  |none=>none
 | .assign x=>match ev σ x with
  |some v=>some (v,none)
  |none=>none
 | .pick c a b=>match ev σ c,ev σ a,ev σ b with
  |some (.bool true),some v,some _=>some (v,none)
  |some (.bool false),some _,some v=>some (v,none)
  |_,_,_=>none
 | .extract x i=>match ev σ x with
  |some (.tuple vs)=>match vs[i]? with
   |some v=>some (v,none)
   |none=>none
  |_=>none
 | .unOp .not _ x=>match ev σ x with
  |some (.bool b)=>some (.bool (!b),none)
  |_=>none
 | .nilCheck x=>match ev σ x with
  |some (.pointer (some p))=>some (.pointer (some p),none)
  |_=>none
 | .binOp .add _ x y _=>match ev σ x,ev σ y with
  |some (.int .i64 a),some (.int .i64 b)=>some (.int .i64 (a+b),some (a+b))
  |_,_=>none
 | .binOp .sub _ x y _=>match ev σ x,ev σ y with
  |some (.int .i64 a),some (.int .i64 b)=>some (.int .i64 (a-b),some (a-b))
  |_,_=>none
 | .binOp .lss _ x y _=>match ev σ x,ev σ y with
  |some (.int .i64 a),some (.int .i64 b)=>some (.bool (decide (a<b)),none)
  |some (.int .u64 a),some (.int .u64 b)=>some (.bool (decide (a<b)),none)
  |_,_=>none
 | .binOp .leq _ x y _=>match ev σ x,ev σ y with
  |some (.int .i64 a),some (.int .i64 b)=>some (.bool (decide (a≤b)),none)
  |some (.int .u64 a),some (.int .u64 b)=>some (.bool (decide (a≤b)),none)
  |_,_=>none
 | .binOp .gtr _ x y _=>match ev σ x,ev σ y with
  |some (.int .i64 a),some (.int .i64 b)=>some (.bool (decide (b<a)),none)
  |some (.int .u64 a),some (.int .u64 b)=>some (.bool (decide (b<a)),none)
  |_,_=>none
 | .binOp .geq _ x y _=>match ev σ x,ev σ y with
  |some (.int .i64 a),some (.int .i64 b)=>some (.bool (decide (b≤a)),none)
  |some (.int .u64 a),some (.int .u64 b)=>some (.bool (decide (b≤a)),none)
  |_,_=>none
 | .binOp .eql _ x y _=>match ev σ x,ev σ y with
  |some (.int .i64 a),some (.int .i64 b)=>some (.bool (decide (a=b)),none)
  |some (.int .u64 a),some (.int .u64 b)=>some (.bool (decide (a=b)),none)
  |_,_=>none
 | .binOp .neq _ x y _=>match ev σ x,ev σ y with
  |some (.int .i64 a),some (.int .i64 b)=>some (.bool (decide (¬a=b)),none)
  |some (.int .u64 a),some (.int .u64 b)=>some (.bool (decide (¬a=b)),none)
  |_,_=>none
 |_=>none
def B0x(x:Int):Prop:= -9223372036854775808≤x∧x≤9223372036854775807
def FS:List Int→Prop
 | []=>True
 |x::r=>(-9223372036854775808≤x∧x≤9223372036854775807)∧FS r
theorem FU{P:Program}{B:Base}{m:Mem}{H:List Ent}{σ:B6}{op:Op}{ty:TypeId}{v:Value}{q:Option Int}(h:Mk σ op=some (v,q))(hq:∀x,q=some x→B0x x):OpX P B m H σ op ty v:=by
 unfold Mk at h
 split at h <;> (repeat' split at h) <;> (try cases h)
 all_goals first
  |exact X.move ‹_›
  |exact X.assign ‹_›
  |exact A2l ‹_› ‹_› ‹_›
  |exact A1Q ‹_› ‹_› ‹_›
  |exact X.extract ‹_› ‹_›
  |exact X.not ‹_›
  |exact X.nilCheck ‹_›
  |exact X.add ‹_› ‹_› (hq _ rfl).1 (hq _ rfl).2
  |exact X.sub ‹_› ‹_› (hq _ rfl).1 (hq _ rfl).2
  |exact X.lss ‹_› ‹_›
  |exact X.leq ‹_› ‹_›
  |exact X.gtr ‹_› ‹_›
  |exact X.geq ‹_› ‹_›
  |exact X.eql ‹_› ‹_›
  |exact X.neq ‹_› ‹_›
def gS(ops:Array Oper)(σ:B6):Option (Nat×Bool)→Option Bool
 |none=>some true
 |some (j,b)=>match Y0 ops j with
  |some t=>match lk σ t with
   |some (.bool true)=>some b
   |some (.bool false)=>some (!b)
   |some (.tuple ⟨[]⟩)=>some false
   |_=>none
  |none=>none
theorem A3a{ops:Array Oper}{σ:B6}{o:Oper}{c:Bool}(h:gS ops σ o.guard=some c):N6 ops σ o=some c:=by
 unfold gS at h;unfold N6
 split at h
 ·rename_i h1;rw[h1];exact h
 ·rename_i j b h1
  rw[h1]
  simp only
  split at h
  ·rename_i t h2
   rw[h2]
   split at h
   ·rename_i h3;simp only[Tz,h3];cases h;cases c <;> rfl
   ·rename_i h3;simp only[Tz,h3];cases h;cases b <;> rfl
   ·rename_i h3;simp only[Tz,h3];exact h
   ·cases h
  ·cases h
def NX(N:Nat)(ops:Array Oper):Nat→B6→List Oper→Option (B6×List Oper×List Int)
 |0,σ,l=>some (σ,l,[])
 |_+1,_,[]=>none
 |n+1,σ,⟨some d,op,_,_,_,g⟩::l=>match Nat.ble (d+1) N with
  |false=>none
  |true=>match gS ops σ g with
   |some false=>NX N ops n ((d,undef)::σ) l
   |some true=>match Mk σ op with
    |some (v,none)=>NX N ops n ((d,v)::σ) l
    |some (v,some x)=>match NX N ops n ((d,v)::σ) l with
     |some (σ',l',bs)=>some (σ',l',x::bs)
     |none=>none
    |none=>none
   |none=>none
 |_+1,_,⟨none,_,_,_,_,_⟩::_=>none
def HQ(N:Nat)(ops:Array Oper)(piv non:List Nat):Nat→B6→Plan→Option (B6×Plan×List Int)
 |0,σ,π=>some (σ,π,[])
 |n+1,σ,.cons i π=>match ops[i]? with
  |some ⟨some d,op,_,_,_,g⟩=>match Nat.ble (d+1) N with
   |false=>none
   |true=>match gS ops σ g with
    |some false=>HQ N ops piv non n ((d,undef)::σ) π
    |some true=>match piv.contains i,non.contains (i+100000)with
     |false,false=>match Mk σ op with
      |some (v,none)=>HQ N ops piv non n ((d,v)::σ) π
      |some (v,some x)=>match HQ N ops piv non n ((d,v)::σ) π with
       |some (σ',l',bs)=>some (σ',l',x::bs)
       |none=>none
      |none=>none
     |_,_=>none
    |none=>none
  |_=>none
 |_+1,_,_=>none
theorem WL.guard{M:Option Nat}{P:Program}{N:Nat}{ops:Array Oper}{Q:Exit→Act→World→Prop}{B:Base}{m:Mem}{H:List Ent}{σ:B6}{rest:List Oper}{d:Nat}{op:Op}{ty:TypeId}{pos:String}{after:Array Edge}{g:Option (Nat×Bool)}{c:Bool}(hg:gS ops σ g=some c)(hd:d<N)
 (ht:c=true→WL M P N ops Q B m H σ (⟨some d,op,ty,pos,after,none⟩::rest)) (hf:c=false→WL M P N ops Q B m H ((d,undef)::σ) rest):WL M P N ops Q B m H σ (⟨some d,op,ty,pos,after,g⟩::rest):=by
 unfold gS at hg
 split at hg
 ·cases hg;exact ht rfl
 ·rename_i j b
  split at hg
  ·rename_i t h2
   split at hg
   ·rename_i h3
    cases hg
    cases hb:c
    ·subst hb;exact WL.no (b:=false) h2 h3 rfl hd (hf rfl)
    ·subst hb;exact WL.yes h2 h3 (ht rfl)
   ·rename_i h3
    cases hg
    cases hb:b
    ·subst hb;exact WL.yes h2 h3 (ht rfl)
    ·subst hb;exact WL.no (b:=true) h2 h3 rfl hd (hf rfl)
   ·rename_i h3
    cases hg
    exact B3t h2 h3 hd (hf rfl)
   ·cases hg
  ·cases hg
set_option maxHeartbeats 1000000 in
theorem B5X{M:Option Nat}{P:Program}{N:Nat}{ops:Array Oper}{Q:Exit→Act→World→Prop}{B:Base}{m:Mem}{H:List Ent}(n:Nat){σ σ':B6}{l l':List Oper}{bs:List Int}(h:NX N ops n σ l=some (σ',l',bs))(k:WL M P N ops Q B m H σ' l')
 (hb:FS bs:=by first|exact trivial|exact⟨by omega,trivial⟩|exact⟨by omega,by omega,trivial⟩|(repeat' (first|exact trivial|refine⟨by omega,?_⟩))):WL M P N ops Q B m H σ l:=by
 induction n generalizing σ l bs with
 |zero=>cases h;exact k
 |succ n ih=>
  match l,h with
  |⟨some d,op,ty,pos,after,g⟩::l,h=>
   unfold NX at h
   split at h
   ·cases h
   ·rename_i hd
    have a:=J' hd
    split at h
    ·rename_i hg
     exact WL.guard hg a (fun e=>by cases e) (fun _=>ih h hb)
    ·rename_i hg
     refine WL.guard hg a (fun _=>?_) (fun e=>by cases e)
     split at h
     ·rename_i v he
      exact WL.x (FU he (fun x b=>by cases b)) a (ih h hb)
     ·rename_i v x he
      split at h
      ·rename_i h2
       cases h
       exact WL.x (FU he (fun y c=>by cases c;exact hb.1)) a (ih h2 hb.2)
      ·cases h
     ·cases h
    ·cases h
set_option maxHeartbeats 1000000 in
theorem Qn{P:Program}{B:Base}{N:Nat}{ops:Array Oper}{piv non:List Nat}{KK:Mem→List Ent→B6→Prop}{m:Mem}{H:List Ent}(n:Nat){σ σ':B6}{π π':Plan}{bs:List Int}(h:HQ N ops piv non n σ π=some (σ',π',bs))(k:DW P B N ops piv non KK false π' m H σ')
 (hb:FS bs:=by first|exact trivial|exact⟨by omega,trivial⟩|exact⟨by omega,by omega,trivial⟩|(repeat' (first|exact trivial|refine⟨by omega,?_⟩))):DW P B N ops piv non KK false π m H σ:=by
 induction n generalizing σ π bs with
 |zero=>cases h;exact k
 |succ n ih=>
  match π,h with
  | .cons i π,h=>
   unfold HQ at h
   split at h
   ·rename_i d op ty pos after g ho
    split at h
    ·cases h
    ·rename_i hd
     have a:=J' hd
     split at h
     ·rename_i hg
      exact DW.no ho (A3a (o:=⟨some d,op,ty,pos,after,g⟩) hg) a (ih h hb)
     ·rename_i hg
      split at h
      ·rename_i hp hn
       have b:∀V,non.contains (i+100000)=true→∀m' H',m.le m'→OpX P B m' H' σ op ty V:=fun V h=>by rw[hn]at h;cases h
       split at h
       ·rename_i v he
        exact DW.x ho (A3a (o:=⟨some d,op,ty,pos,after,g⟩) hg) (FU he (fun x c=>by cases c)) a (ih h hb) hp (b _)
       ·rename_i v x he
        split at h
        ·rename_i h2
         cases h
         exact DW.x ho (A3a (o:=⟨some d,op,ty,pos,after,g⟩) hg) (FU he (fun y f=>by cases f;exact hb.1)) a (ih h2 hb.2) hp (b _)
        ·cases h
       ·cases h
      ·cases h
     ·cases h
   ·cases h
section
variable{M:Option Nat}{P:Program}{N:Nat}{ops:Array Oper}{Q:Exit→Act→World→Prop}{B:Base}{m:Mem}{H:List Ent}{σ σ':B6}{l l':List Oper}{bs:List Int}{piv non:List Nat}{KK:Mem→List Ent→B6→Prop}{π π':Plan}
theorem Qg(k:DW P B N ops piv non KK false π' m H σ')(h:HQ N ops piv non 2 σ π=some (σ',π',bs):=by exact rfl)(hb:FS bs:=by first|exact trivial|exact⟨by omega,trivial⟩|exact⟨by omega,by omega,trivial⟩|(repeat' (first|exact trivial|refine⟨by omega,?_⟩))):DW P B N ops piv non KK false π m H σ:=Qn 2 h k hb
theorem d_6(k:DW P B N ops piv non KK false π' m H σ')(h:HQ N ops piv non 6 σ π=some (σ',π',bs):=by exact rfl)(hb:FS bs:=by first|exact trivial|exact⟨by omega,trivial⟩|exact⟨by omega,by omega,trivial⟩|(repeat' (first|exact trivial|refine⟨by omega,?_⟩))):DW P B N ops piv non KK false π m H σ:=Qn 6 h k hb
theorem d_8(k:DW P B N ops piv non KK false π' m H σ')(h:HQ N ops piv non 8 σ π=some (σ',π',bs):=by exact rfl)(hb:FS bs:=by first|exact trivial|exact⟨by omega,trivial⟩|exact⟨by omega,by omega,trivial⟩|(repeat' (first|exact trivial|refine⟨by omega,?_⟩))):DW P B N ops piv non KK false π m H σ:=Qn 8 h k hb
end
section
variable{P:Program}{B:Base}{m:Mem}{H:List Ent}{σ:B6}{ty:TypeId}
theorem T.makeMap{t:TypeId}:OpTo P B m H σ (.makeMap t none) ty (fun u m' H'=>m'=m∧∃b,u= .map (some b)∧H'=F0 b (.map #[] 0)::H):=
 .ofRun trivial (by intro x d;simp[Op.operands]at d) fun w a o c _=>by
  refine⟨.map (some w.heap.size),w.alloc (.map #[] 0),.inl (by simp[execOp,c,Instr.makeMap,go_sem]),m,_,⟨rfl,_,rfl,rfl⟩,a.laid _⟩
end
structure KeyT(P:Program)(t:TypeId)(α:Type)[Flat α][DecidableEq α]:Prop where
 und:∃fs,∀w,(underlying t).run P w= .ok (.struct fs) w
 chk:∀(em:Bool) (k:α) (w:World),(Instr.checkKey em 10000 t (.agg (Flat.enc k).toArray)).run P w= .ok () w
 eq:∀(a b:α) (w:World),(Op.equal t (.agg (Flat.enc a).toArray) (.agg (Flat.enc b).toArray)).run P w= .ok (decide (a=b)) w
 bits:∀k:α,Instr.sameBits 10000 (.agg (Flat.enc k).toArray) (.agg (Flat.enc k).toArray)=true
def Bp(α:Type)[Flat α](es:List MapEntry):Prop:=∀e∈es,∃k:α,e.key= .agg (Flat.enc k).toArray
def B0B{α:Type}[Flat α](k:α)(es:List MapEntry)(i:Nat)(r:Option (Nat×Value)):Prop:=
 ∀j v,r=some (j,v)→i≤j∧∃e,es[j-i]?=some e∧e.val=v∧e.key= .agg (Flat.enc k).toArray
theorem GT{P:Program}{t:TypeId}{α:Type}[Flat α][DecidableEq α](h:KeyT P t α)(k:α):∀(es:List MapEntry) (i:Nat),Bp α es→
 ∃r,(∀w,(Instr.findAsking t (.agg (Flat.enc k).toArray) es i).run P w= .ok r w)∧B0B k es i r
 | [],i,_=>⟨none,fun w=>by simp[Instr.findAsking],fun j v h=>by cases h⟩
 |e::es,i,hk=>by
  obtain⟨k',hk'⟩:=hk e (Sf ..)
  obtain⟨r,ih,d⟩:=GT h k es (i+1) (fun e c=>hk e (Sg _ c))
  by_cases b:k=k'
  ·subst b
   refine⟨some (i,e.val),fun w=>?_,fun j v a=>?_⟩
   ·rw[Instr.findAsking,hk']
    simp[h.eq]
   ·cases a
    exact⟨E' _,e,by simp,rfl,hk'⟩
  ·refine⟨r,fun w=>?_,fun j v a=>?_⟩
   ·rw[Instr.findAsking,hk']
    simp[h.eq,b,ih]
   ·obtain⟨m,e',f,g,l⟩:=d j v a
    refine⟨by omega,e',?_,g,l⟩
    rw[show j-i=(j-(i+1))+1 by omega]
    simpa using f
theorem Y7{P:Program}{t:TypeId}{α:Type}[Flat α][DecidableEq α](h:KeyT P t α)(k:α)(es:List MapEntry)(hk:Bp α es):
 ∃r,(∀w,(Instr.findKey t (.agg (Flat.enc k).toArray) es).run P w= .ok r w)∧B0B k es 0 r:=by
 obtain⟨fs,a⟩:=h.und
 cases es with
 |nil=>exact⟨none,fun w=>by simp[Instr.findKey,a,Instr.findNow],fun j v h=>by cases h⟩
 |cons e es=>
  obtain⟨r,b,c⟩:=GT h k (e::es) 0 hk
  obtain⟨k',d⟩:=hk e (Sf ..)
  refine⟨r,fun w=>?_,c⟩
  have:Instr.findNow (.struct fs) (.agg (Flat.enc k).toArray) (e::es) 0=none:=by simp[Instr.findNow,Instr.sameNow]
  simp[Instr.findKey,a,this,b]
theorem X6{es:List MapEntry}{i:Nat}{f:MapEntry→MapEntry}{e:MapEntry}(h:e∈es.modify i f):e∈es∨∃e0,e0∈es∧e=f e0:=by
 obtain⟨j,a⟩:=TR.1 h
 rw[List.getElem?_modify]at a
 cases hq:es[j]? with
 |none=>rw[hq]at a;simp at a
 |some e0=>
  rw[hq]at a
  simp only[Option.map_eq_map,Ty,Option.some.injEq]at a
  split at a
  ·exact .inr ⟨e0,Ta hq,a.symm⟩
  ·subst a;exact .inl (Ta hq)
section
variable{P:Program}{B:Base}{m:Mem}{H:List Ent}{σ:B6}{ty:TypeId}
theorem I4{w:World}{r:Nat}{es:Array MapEntry}{clock:Nat}(hb:w.heap[r]?=some (.map es clock)):(getObj r).run P w= .ok (.map es clock) w:=by simp[getObj,Sem.run,hb]
theorem Y5{w:World}{r:Nat}{es:Array MapEntry}{clock:Nat}(o:Obj)(hb:w.heap[r]?=some (.map es clock)):(setObj r o).run P w= .ok () (w.putObj r o):=by simp[setObj,Sem.run,hb,World.putObj]
theorem E.lookup{x y:Operand}{t kt et:TypeId}{j b clock:Nat}{es:Array MapEntry}{α:Type}[Flat α][DecidableEq α]{k:α}{z:Value}(ht:∀w,(underlying t).run P w= .ok (.map kt et) w)(hK:KeyT P kt α)(hz:∀w,(zeroValue et).run P w= .ok z w)
 (hx:ev σ x=some (.map (some b))) (hy:ev σ y=some (.agg (Flat.enc k).toArray)) (hH:A7 H j=some (F0 b (.map es clock))) (hk:Bp α es.toList):
 E P B m H σ (.lookup t x y true) ty (fun p:Value×Bool=>.tuple #[p.1,.bool p.2]) (fun p=>(p.1=z∧p.2=false)∨(p.2=true∧∃e∈es.toList,e.val=p.1)):=by
 obtain⟨r,c,g⟩:=Y7 hK k es.toList hk
 refine⟨match r with
  |some (_,v)=>(v,true)
  |none=>(z,false),.ofRun trivial (D1 rfl hx hy) fun w d o f _=>?_,?_⟩
 ·have a:w.heap[b]?=some (.map es clock):=C3 d hH
  simp only[execOp,f,A6 hx,A6 hy]
  cases r with
  |none=>simp[Instr.lookup,ht,I4 a,hK.chk,c,hz]
  |some p=>obtain⟨i,v⟩:=p;simp[Instr.lookup,ht,I4 a,hK.chk,c]
 ·cases r with
  |none=>exact .inl ⟨rfl,rfl⟩
  |some p=>
   obtain⟨i,v⟩:=p
   obtain⟨_,e,l,n,_⟩:=g i v rfl
   exact .inr ⟨rfl,e,Ta l,n⟩
theorem T.mapUpdate{x y u:Operand}{t kt et:TypeId}{j b clock:Nat}{es:Array MapEntry}{α:Type}[Flat α][DecidableEq α]{k:α}{v:Value}(ht:∀w,(underlying t).run P w= .ok (.map kt et) w)(hK:KeyT P kt α)
 (hx:ev σ x=some (.map (some b))) (hy:ev σ y=some (.agg (Flat.enc k).toArray)) (hu:ev σ u=some v) (hH:A7 H j=some (F0 b (.map es clock))) (hk:Bp α es.toList):
 OpTo P B m H σ (.mapUpdate t x y u) ty (fun _ m' H'=>m'=m∧∃D4 clock',H'=H4 H j (F0 b (.map D4 clock'))∧Bp α D4.toList∧∀e∈D4.toList,e.val=v∨∃e0∈es.toList,e0.val=e.val):=by
 obtain⟨r,q,s⟩:=Y7 hK k es.toList hk
 refine .ofRun trivial (JM rfl hx hy hu) fun w l o n _=>?_
 have g:w.heap[b]?=some (.map es clock):=C3 l hH
 obtain⟨A,C,rfl,f,_⟩:=N0 hH
 cases r with
 |none=>
  refine⟨undef,w.putObj b (.map (es.push {key:=.agg (Flat.enc k).toArray,val:=v,born:=clock}) (clock+1)),.inr ⟨?_,rfl⟩,m,H4 (A++F0 b (.map es clock)::C) j (F0 b (.map (es.push {key:=.agg (Flat.enc k).toArray,val:=v,born:=clock}) (clock+1))),⟨rfl,es.push {key:=.agg (Flat.enc k).toArray,val:=v,born:=clock},clock+1,rfl,fun e a=>?_,fun e a=>?_⟩,?_⟩
  ·simp[execOp,n,A6 hx,A6 hy,A6 hu,Instr.mapUpdate,ht,I4 g,hK.chk,q,Y5 _ g]
  ·rcases(by simpa using a:e∈es∨e=_)with c|rfl
   ·exact hk e (by simpa using c)
   ·exact⟨k,rfl⟩
  ·rcases(by simpa using a:e∈es∨e=_)with c|rfl
   ·exact .inr ⟨e,by simpa using c,rfl⟩
   ·exact .inl rfl
  ·rw[f];exact l.turn
 |some p=>
  obtain⟨i,z⟩:=p
  obtain⟨_,E,c,_,D⟩:=s i z rfl
  have d:((es[i]?).map (·.key)).getD (.agg (Flat.enc k).toArray)= .agg (Flat.enc k).toArray:=by
   rw[Ts,Uw]at c
   rw[c];exact D
  refine⟨undef,w.putObj b (.map (es.modify i fun e=>{e with key:=.agg (Flat.enc k).toArray,val:=v}) clock),.inr ⟨?_,rfl⟩,m,H4 (A++F0 b (.map es clock)::C) j (F0 b (.map (es.modify i fun e=>{e with key:=.agg (Flat.enc k).toArray,val:=v}) clock)),⟨rfl,es.modify i fun e=>{e with key:=.agg (Flat.enc k).toArray,val:=v},clock,rfl,fun e a=>?_,fun e a=>?_⟩,?_⟩
  ·simp[execOp,n,A6 hx,A6 hy,A6 hu,Instr.mapUpdate,ht,I4 g,hK.chk,q,d,Instr.keyThatStays,hK.bits,Y5 _ g]
  ·rw[Te]at a
   rcases X6 a with h5|⟨e0,h5,rfl⟩
   ·exact hk e h5
   ·exact⟨k,rfl⟩
  ·rw[Te]at a
   rcases X6 a with h5|⟨e0,h5,rfl⟩
   ·exact .inr ⟨e,h5,rfl⟩
   ·exact .inl rfl
  ·rw[f];exact l.turn
end
end Go.Kx
