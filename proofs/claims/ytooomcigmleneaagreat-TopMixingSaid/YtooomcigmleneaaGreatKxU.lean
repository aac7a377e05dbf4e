import Derived.Test.YtooomcigmleneaaGreatKxS
import Derived.Test.YtooomcigmleneaaGreatKxQ
set_option linter.all false
namespace Go.Kx
open Go
section
variable{P:Program}{B:Base}{m:Mem}{H:List Ent}{σ:B5}{ty:TypeId}
theorem C0y{z:Array Value}(hz:∀v∈z.toList,v.oneCell'=true)(h0:0<z.size)(n:Nat):∀v∈(Builtin.zeroCells z n).toList,v.oneCell'=true:=by
 intro v hv
 unfold Builtin.zeroCells at hv
 rw[Array.toList_map,List.mem_map]at hv
 obtain⟨i,_,rfl⟩:=hv
 have hi:i%z.size<z.size:=Nat.mod_lt _ h0
 rw[getElem!_pos z _ hi]
 exact hz _ (by rw[←Array.getElem_toList hi];exact List.getElem_mem _)
theorem T.clear{x:Operand}{t e e':TypeId}{g n c sz bytes k q l j:Nat}{z:Value}{xs:List Value}(hS:SlT P t e sz bytes z)(hz1:∀v∈z.cells.toList,v.oneCell'=true)(h0:0<sz)
 (hx:ev σ x=some (.slice (some ⟨g,k*sz,none⟩) l q)) (hH:B2 H j=some (row (.slice (some ⟨g,0,none⟩) n c) e' sz n xs)) (hl:k+l=n) (hl0:0<l):
 OpTo P B m H σ (.call (Call.mk (.builtin .clear) #[x] #[t])) ty (fun _ m' H'=>m'=m∧H'=H4 H j (row (.slice (some ⟨g,0,none⟩) n c) e' sz n (xs.take (k*sz)++(Builtin.zeroCells z.cells l).toList))):=
 .ofRun trivial (I8 (by simp[Op.operands,Call.operands]) hx) fun w hw o ho _=>by
  have hh:(row (.slice (some ⟨g,0,none⟩) n c) e' sz n xs).holds w:=C1 hw hH
  have hxl:xs.length=n*sz:=hh.1
  have hzl:(Builtin.zeroCells z.cells l).toList.length=l*sz:=by rw[Array.length_toList,size_zeroCells,hS.hz]
  have hn:n*sz=k*sz+l*sz:=by rw[←Nat.add_mul,hl]
  have hpos:0<l*sz:=Nat.mul_pos hl0 h0
  obtain⟨w',hr,hs'⟩:=A2D (P:=P) (off:=k*sz) hw hH (us:=(Builtin.zeroCells z.cells l).toList) (by omega) (by omega) (C0y hz1 (by rw[hS.hz];exact h0) l)
  have hr':(storeCells ⟨g,k*sz,none⟩ (Builtin.zeroCells z.cells l).toList).run P w= .ok () w':=hr
  refine⟨.tuple #[],w',.inl ?_,m,_,⟨rfl,rfl⟩,?_⟩
  ·obtain⟨l',rfl⟩:∃l',l=l'+1:=⟨l-1,by omega⟩
   have hc:(Builtin.clear_ #[t] o.type #[.slice (some ⟨g,k*sz,none⟩) (l'+1) q]).run P w= .ok (.tuple #[]) w':=by
    simp[Builtin.clear_,run_underlying hS.ht,hS.zr,hr']
   simp only[execOp,ho]
   simp[resolve,invoke,builtin,A6 hx,hc]
  ·have hd:xs.drop (k*sz+(Builtin.zeroCells z.cells l).toList.length)=[]:=List.drop_eq_nil_of_le (by omega)
   rw[hd,List.append_nil]at hs'
   exact hs'
theorem B9x{N:Nat}{K:Act→World→Prop}{k g n c h sz:Nat}{e:TypeId}{xs:List Value}(hH:B2 H k=some (row (.slice (some ⟨g,0,none⟩) n c) e sz n xs))(h1:h≤n)
 (kk:WK N B m (H4 H k (row (.slice (some ⟨g,0,none⟩) h c) e sz h (xs.take (h*sz)))) σ K):WK N B m H σ K:=fun Ds w hw a ha=>by
 have hf:=U3 (R:=marks Ds) hH
 have hh:(row (.slice (some ⟨g,0,none⟩) n c) e sz n xs).holds w:=C1 hw hf
 have hlen:=hh.1
 rcases hh.2 with⟨hv,_⟩|⟨g',cap,cur,hv,hb,h3,h4,h5,h6,h7⟩
 ·cases hv
 ·cases hv
  have hm:h*sz≤n*sz:=Nat.mul_le_mul_right _ h1
  refine kk Ds w ?_ a ha
  rw[←B6h hH]
  refine hw.change hf rfl rfl rfl (Nat.le_refl _) (fun _ _ _=>rfl) ⟨by rw[List.length_take];omega,.inr ⟨g,c,cur,rfl,hb,h3,by omega,h5,h6,?_⟩⟩ (fun b hb'=>.inl (by simpa[row,Value.ownBlock]using hb')) (by simp[row,Value.ownBlock])
  rw[←h7,List.take_take,Nat.min_eq_left hm]
end
end Go.Kx
namespace Go.Kx
open Go
section
variable{P:Program}{B:Base}{m:Mem}{H:List Ent}{σ:B5}{ty:TypeId}
theorem C4r{x y:Operand}{t e:TypeId}{sz:Nat}(ht:P.underlying t=some (.slice e))(hz:∀w,(sizeOf e).run P w= .ok sz w)
 (hx:ev σ x=some (.slice none 0 0)) (hy:ev σ y=some (.int .i64 0)):
 OpX P B m H σ (.slice t x none (some y) none) ty (.slice none 0 0):=by
 have he:P.elem t=e:=by simp[Program.elem,ht]
 have ht':P.underlying t=some (.slice (P.elem t)):=by rw[he];exact ht
 refine .ofRun trivial (A4e (l:=[x,y]) rfl (by simp only[List.mem_cons,forall_eq_or_imp,List.not_mem_nil,false_imp_iff,implies_true,and_true];exact⟨⟨_,hx⟩,⟨_,hy⟩⟩)) fun w _ o ho _=>?_
 have hr:=run_slice_h (P:=P) w t none 0 0 ht' .i64 0 (by omega) (by omega)
 rw[←run_sliceAt_slice (P:=P) w t _ _ _ _ ht',he,hz]at hr
 simp only[Result.andThen_ok,_root_.Go.sliced,Option.map_none,Int.toNat_zero,Nat.sub_self]at hr
 simp[execOp,ho,A6 hx,A6 hy,hr]
theorem B6y{s x:Operand}{t e ti:TypeId}{sz bytes:Nat}{z:Value}(hS:SlT P t e sz bytes z)(hi64:P.underlying ti=some (.int .i64)){q:Int}(p:Nat)
 (hs:ev σ s=some (.slice none 0 0)) (hx:ev σ x=some (.int .i64 q)) (hq:q=p) (hp:0<p) (hsz:0<sz) (hb:p*bytes≤140737488355328) (h63:p≤9223372036854775807):
 OpTo P B m H σ (.call (Call.mk (.builtin .append) #[s,x] #[t,ti])) ty (fun v m' H'=>m'=m∧∃g' c' zs,v= .slice (some ⟨g',0,none⟩) p c'∧p≤c'∧zs.length=p*sz∧H'=row v e sz p zs::H):=
 .ofRun trivial (D0 (by simp[Op.operands,Call.operands]) hs hx) fun w hw o ho _=>by
  subst hq
  obtain⟨i,hi,hz,hs',hby⟩:=hS.hi
  have hzs:=hS.hz
  have ht:=hS.ht
  subst hs';subst hby
  have hpb:(p:Int)*(i.bytes:Int)≤281474976710656:=by
   have h2:((p*i.bytes:Nat):Int)≤281474976710656:=by omega
   rw[Int.natCast_mul]at h2;exact h2
  have hw1:IntKind.i64.wrap (p:Int)=p:=M9 (by omega) (by omega)
  have hp0:¬p=0:=by omega
  have h63':¬(9223372036854775807<(p:Int)):=by omega
  have h48':¬(281474976710656<Builtin.nextslicecap p 0*i.bytes):=by have:=growslice_fits (need:=p) (old:=0) (by omega) hb;omega
  have hneg:¬((p:Int)<0):=by omega
  have hpb':¬(281474976710656<(p:Int)*(i.bytes:Int)):=by omega
  have hge:=grownCap_ge w p 0 e
  have hmx:max (p:Int) 0=p:=by omega
  refine⟨.slice (some ⟨w.heap.size,0,none⟩) p (grownCap w p 0 e),w.drew.alloc (.cells (Builtin.zeroCells z.cells p++Builtin.zeroCells z.cells (grownCap w p 0 e-p)) e),.inl ?_,m,_,
   ⟨rfl,w.heap.size,grownCap w p 0 e,(Builtin.zeroCells z.cells p).toList,rfl,hge,?_,rfl⟩,?_⟩
  ·have hr:(Builtin.append_ #[t,ti] o.type #[.slice none 0 0,.int .i64 (p:Int)]).run P w= .ok (.slice (some ⟨w.heap.size,0,none⟩) p (grownCap w p 0 e)) (w.drew.alloc (.cells (Builtin.zeroCells z.cells p++Builtin.zeroCells z.cells (grownCap w p 0 e-p)) e)):=by
    simp[Builtin.append_,run_underlying ht,run_underlying hi64,sizeOf,typeInfo,zeroValue,hi,hz,asInt,asIntOf,hw1,hneg,hpb',hp0,h63',h48',Question.forced,Builtin.firstCells,newRow,grownCap,hmx]
    intro h;exact absurd h (Nat.ne_of_gt (Nat.mul_pos hp hsz))
   simp only[execOp,ho]
   simp[resolve,invoke,builtin,A6 hs,A6 hx,hr]
  ·simp[size_zeroCells,hzs]
  ·refine hw.push (Ext.trans (Ext.drew w) (Ext.alloc w.drew _)) _ ?_ (by simp[row,Value.ownBlock]) (by simp[row,Value.ownBlock])
   have hlen:(Builtin.zeroCells z.cells p).toList.length=p*i.size:=by rw[Array.length_toList,size_zeroCells,hzs]
   refine⟨hlen,.inr ⟨w.heap.size,_,_,rfl,Nat.zero_le _,heap_alloc_new w.drew _,hge,grownCap_le_maxLen w p 0 e (by simpa[maxLen]using h63),?_,?_⟩⟩
   ·simp only[Array.size_append,size_zeroCells,hzs,←Nat.add_mul]
    congr 1
    omega
   ·simp only[Array.toList_append]
    rw[←hlen]
    exact List.take_left
theorem S3{H:List Ent}{x y:Operand}{t:TypeId}{k b off:Nat}{T:TypeId}{cs vs:List Value}(cs':List Value){n:Nat}(hz:∀w,(sizeOf t).run P w= .ok n w)
 (hx:ev σ x=some (.pointer (some ⟨b,off,none⟩))) (hy:ev σ y=some (.agg vs.toArray)) (hH:B2 H k=some (blk b T cs)) (hv:∀v∈vs,v.oneCell'=true) (hn:vs.length=n) (hl:Nat.ble (off+vs.length) cs.length=true)
 (he:cs.take off++vs++cs.drop (off+vs.length)=cs'):
 OpTo P B m H σ (.store t x y) ty (fun _ m' H'=>m'=m∧H'=H4 H k (blk b T cs')):=
 .ofRun trivial (D0 rfl hx hy) fun w hw o hop _=>by
  obtain⟨w',hr,hs⟩:=A7G (P:=P) hw (off:=off) (vs:=vs) hH (Nat.le_of_ble_eq_true hl) hv
  refine⟨undef,w',.inr ⟨by simp[execOp,hop,A6 hx,A6 hy,Instr.storeAt,Instr.sureAddr,storeVar,hz,Value.cells,hn,hr],rfl⟩,m,_,⟨rfl,rfl⟩,?_⟩
  rw[he]at hs;exact hs
end
end Go.Kx
namespace Go.Kx
open Go
instance:Enc RawV:=G1 RawV
instance:FlatEnc RawV:=⟨rfl,fun _ _=>rfl⟩
section
variable{P:Program}{B:Base}{m:Mem}{H:List Ent}{σ:B5}{ty:TypeId}
theorem C4B{x y:Operand}{t e:TypeId}{n sz b off:Nat}{q:Int}(k:Nat)(ht:P.underlying t=some (.array n e))(hz:∀w,(sizeOf e).run P w= .ok sz w)
 (hx:ev σ x=some (.pointer (some ⟨b,off,none⟩))) (hy:ev σ y=some (.int .i64 q)) (hq:q=k) (h1:k<n):OpX P B m H σ (.slice t x (some y) none none) ty (.slice (some ⟨b,off+k*sz,none⟩) (n-k) (n-k)):=by
 subst hq
 have he:P.elem t=e:=by simp[Program.elem,ht]
 have hc:P.arrayLen t=n:=by simp[Program.arrayLen,ht]
 have ht':P.underlying t=some (.array (P.arrayLen t) (P.elem t)):=by rw[he,hc];exact ht
 refine .ofRun trivial (A4e (l:=[x,y]) rfl (by simp only[List.mem_cons,forall_eq_or_imp,List.not_mem_nil,false_imp_iff,implies_true,and_true];exact⟨⟨_,hx⟩,⟨_,hy⟩⟩)) fun w _ o ho _=>?_
 have hr:=run_sliceAt_array_l (P:=P) w t ⟨b,off,none⟩ ht' .i64 k (by omega) (by rw[hc];omega)
 rw[he,hz,hc]at hr
 have h00:(⟨b,off,none⟩:Addr).add (k*sz)=⟨b,off+k*sz,none⟩:=B9 rfl _
 simp only[Result.andThen_ok,_root_.Go.slicedAt,Int.toNat_natCast,if_neg (show¬n=k by omega),h00]at hr
 simp[execOp,ho,A6 hx,A6 hy,hr]
theorem C3y{x:Operand}{t e:TypeId}{n sz b off:Nat}(ht:P.underlying t=some (.array n e))(hz:∀w,(sizeOf e).run P w= .ok sz w)
 (hx:ev σ x=some (.pointer (some ⟨b,off,none⟩))):OpX P B m H σ (.slice t x none none none) ty (.slice (some ⟨b,off,none⟩) n n):=by
 have he:P.elem t=e:=by simp[Program.elem,ht]
 have hc:P.arrayLen t=n:=by simp[Program.arrayLen,ht]
 have ht':P.underlying t=some (.array (P.arrayLen t) (P.elem t)):=by rw[he,hc];exact ht
 refine .ofRun trivial (I8 rfl hx) fun w _ o ho _=>?_
 have hr:=run_sliceAt_array_all (P:=P) w t ⟨b,off,none⟩ ht'
 rw[he,hz,hc]at hr
 have h00:(⟨b,off,none⟩:Addr).add (0*sz)=⟨b,off,none⟩:=by rw[Nat.zero_mul];exact B9 rfl _
 simp only[Result.andThen_ok,_root_.Go.slicedAt,h00,ite_self,Nat.sub_zero]at hr
 simp[execOp,ho,A6 hx,hr]
theorem B7X{N:Nat}{K:Act→World→Prop}{k b n:Nat}{T:TypeId}{cs:List Value}(hH:B2 H k=some (blk b T cs))(hl:cs.length=n)(hm:n≤maxLen)
 (kk:WK N B m (H4 H k (row (.slice (some ⟨b,0,none⟩) n n) T 1 n cs)) σ K):WK N B m H σ K:=fun Ds w hw a ha=>by
 have hf:=U3 (R:=marks Ds) hH
 have hh:(blk b T cs).holds w:=C1 hw hf
 refine kk Ds w ?_ a ha
 rw[←B6h hH]
 refine hw.change hf rfl rfl rfl (Nat.le_refl _) (fun _ _ _=>rfl) ⟨by rw[hl,Nat.mul_one],.inr ⟨b,n,cs.toArray,rfl,Nat.zero_le _,hh,Nat.le_refl _,hm,by simp[hl],by simp[←hl]⟩⟩ (fun c hc=>.inl (by simpa[row,blk,Value.ownBlock]using hc)) (by simp[row,Value.ownBlock])
end
def Bk(xs:List Value):Prop:=xs.length=64∧∀u∈xs,u.oneCell'=true
theorem Bk.zero:Bk (List.replicate 64 (.int .u8 0)):=⟨by simp,fun u hu=>by rw[(List.mem_replicate.1 hu).2];rfl⟩
theorem Bk.set{xs:List Value}(h:Bk xs)(i:Nat){v:Value}(hv:v.oneCell'=true):Bk (xs.set i v):=⟨by rw[List.length_set];exact h.1,fun u hu=>by
 rcases List.mem_or_eq_of_mem_set hu with h1|rfl
 ·exact h.2 u h1
 ·exact hv⟩
theorem Bk.copy{xs cs:List Value}(h:Bk xs){off:Nat}(hl:off+cs.length≤64)(hc:∀v∈cs,v.oneCell'=true):Bk (xs.take off++cs++xs.drop (off+cs.length)):=by
 have h1:=h.1
 refine⟨by simp;omega,fun u hu=>?_⟩
 rcases List.mem_append.1 hu with h2|h2
 ·rcases List.mem_append.1 h2 with h3|h3
  ·exact h.2 u (List.mem_of_mem_take h3)
  ·exact hc u h3
 ·exact h.2 u (List.mem_of_mem_drop h2)
theorem Bk.part{xs:List Value}:∀j u,xs[j]?=some u→xs[0+j]?=some u:=fun j u hu=>by rw[Nat.zero_add];exact hu
theorem C4N{P:Program}{B:Base}{m:Mem}{H:List Ent}{σ:B5}{ty:TypeId}{s x:Operand}{t t' e e':TypeId}{g off dl dc n0 c0 n k:Nat}{v:Value}{xs:List Value}{L:List RawV}(ht:P.underlying t=some (.slice e))(hz:∀w,(sizeOf e).run P w= .ok 1 w)
 (hd:ev σ s=some (.slice (some ⟨g,off,none⟩) dl dc)) (hx:ev σ x=some v) (hs:Sl m v L) (hH:B2 H k=some (row (.slice (some ⟨g,0,none⟩) n0 c0) e' 1 n xs)) (hB:Bk xs) (h0:0<L.length) (hL:L.length≤dl) (hfit:off+L.length≤64):
 OpTo P B m H σ (.call (Call.mk (.builtin .copy) #[s,x] #[t,t'])) ty (fun _ m' H'=>m'=m∧∃ys,Bk ys∧H'=H4 H k (row (.slice (some ⟨g,0,none⟩) n0 c0) e' 1 n ys)):=by
 obtain⟨news,g1,g2,g3⟩:=hs.src
 have hnl:news.length=L.length:=g1.1.trans (Nat.mul_one _)
 rcases g3 with⟨hv,rfl⟩|⟨p,cap,hv,_,g4⟩
 ·simp at h0
 ·have h1:∀u∈news,u.oneCell'=true:=fun u hu=>by
   obtain⟨j,hj,rfl⟩:=List.mem_iff_getElem.1 hu
   obtain⟨vs,h2,h3⟩:=g1.2 j L[j] (by simp[show j<L.length by omega])
   have h4:vs=[L[j].v]:=h2
   subst h4
   have h5:=h3 0 _ rfl
   have h6:j*Enc.sz RawV+0=j:=Nat.mul_one j
   rw[h6,List.getElem?_eq_getElem hj]at h5
   rw[Option.some.inj h5];exact(L[j]).one
  have:=A2Y (P:=P) (B:=B) (m:=m) (H:=H) (σ:=σ) (ty:=ty) (t':=t') news ht hz hd (hx.trans (congrArg some hv)) hH (by rw[hnl,Nat.min_eq_left hL,Nat.mul_one]) (fun B w hw j u hj=>by have:=g4 w hw.sub j u hj;simpa using this)
   (by rw[hnl,hB.1];exact hfit) (by omega) h1
  exact⟨this.sel,this.defd,fun M B w hw o ac next Q ho ht k'=>this.run M B w hw o ac next Q ho ht fun v' m' H' w' h hst=>k' v' m' H' w' ⟨h.2.1,_,hB.copy (by omega) h1,h.2.2⟩ hst⟩
end Go.Kx
namespace Go.Kx
open Go
def A9C(σ:B5):Op→Option (Value×Option Int)
 | .move x=>match ev σ x with
  |some v=>some (v,none)
  |none=>none
 | .assign x=>match ev σ x with
  |some v=>some (v,none)
  |none=>none
 | .pick c a b=>match ev σ c,ev σ a,ev σ b with
  |some (.bool true),some v,some _=>some (v,none)
  |some (.bool false),some _,some v=>some (v,none)
  |_,_,_=>none
 | .extract x i=>match ev σ x with
  |some (.tuple vs)=>match vs[i]? with
   |some v=>some (v,none)
   |none=>none
  |_=>none
 | .unOp .not _ x=>match ev σ x with
  |some (.bool b)=>some (.bool (!b),none)
  |_=>none
 | .nilCheck x=>match ev σ x with
  |some (.pointer (some p))=>some (.pointer (some p),none)
  |_=>none
 | .binOp .add _ x y _=>match ev σ x,ev σ y with
  |some (.int .i64 a),some (.int .i64 b)=>some (.int .i64 (a+b),some (a+b))
  |_,_=>none
 | .binOp .sub _ x y _=>match ev σ x,ev σ y with
  |some (.int .i64 a),some (.int .i64 b)=>some (.int .i64 (a-b),some (a-b))
  |_,_=>none
 | .binOp .lss _ x y _=>match ev σ x,ev σ y with
  |some (.int .i64 a),some (.int .i64 b)=>some (.bool (decide (a<b)),none)
  |some (.int .u64 a),some (.int .u64 b)=>some (.bool (decide (a<b)),none)
  |_,_=>none
 | .binOp .leq _ x y _=>match ev σ x,ev σ y with
  |some (.int .i64 a),some (.int .i64 b)=>some (.bool (decide (a≤b)),none)
  |some (.int .u64 a),some (.int .u64 b)=>some (.bool (decide (a≤b)),none)
  |_,_=>none
 | .binOp .gtr _ x y _=>match ev σ x,ev σ y with
  |some (.int .i64 a),some (.int .i64 b)=>some (.bool (decide (b<a)),none)
  |some (.int .u64 a),some (.int .u64 b)=>some (.bool (decide (b<a)),none)
  |_,_=>none
 | .binOp .geq _ x y _=>match ev σ x,ev σ y with
  |some (.int .i64 a),some (.int .i64 b)=>some (.bool (decide (b≤a)),none)
  |some (.int .u64 a),some (.int .u64 b)=>some (.bool (decide (b≤a)),none)
  |_,_=>none
 | .binOp .eql _ x y _=>match ev σ x,ev σ y with
  |some (.int .i64 a),some (.int .i64 b)=>some (.bool (decide (a=b)),none)
  |some (.int .u64 a),some (.int .u64 b)=>some (.bool (decide (a=b)),none)
  |_,_=>none
 | .binOp .neq _ x y _=>match ev σ x,ev σ y with
  |some (.int .i64 a),some (.int .i64 b)=>some (.bool (decide (¬a=b)),none)
  |some (.int .u64 a),some (.int .u64 b)=>some (.bool (decide (¬a=b)),none)
  |_,_=>none
 |_=>none
def C2B(x:Int):Prop:= -9223372036854775808≤x∧x≤9223372036854775807
def okB:List Int→Prop
 | []=>True
 |x::r=>(-9223372036854775808≤x∧x≤9223372036854775807)∧okB r
theorem A4u{P:Program}{B:Base}{m:Mem}{H:List Ent}{σ:B5}{op:Op}{ty:TypeId}{v:Value}{q:Option Int}(h:A9C σ op=some (v,q))(hq:∀x,q=some x→C2B x):OpX P B m H σ op ty v:=by
 unfold A9C at h
 split at h <;> (repeat' split at h) <;> (try cases h)
 all_goals first
  |exact X.move (by assumption)
  |exact X.assign (by assumption)
  |exact B6a (by assumption) (by assumption) (by assumption)
  |exact B5p (by assumption) (by assumption) (by assumption)
  |exact X.extract (by assumption) (by assumption)
  |exact X.not (by assumption)
  |exact X.nilCheck (by assumption)
  |exact X.add (by assumption) (by assumption) (hq _ rfl).1 (hq _ rfl).2
  |exact X.sub (by assumption) (by assumption) (hq _ rfl).1 (hq _ rfl).2
  |exact X.lss (by assumption) (by assumption)
  |exact X.leq (by assumption) (by assumption)
  |exact X.gtr (by assumption) (by assumption)
  |exact X.geq (by assumption) (by assumption)
  |exact X.eql (by assumption) (by assumption)
  |exact X.neq (by assumption) (by assumption)
def gS(ops:Array Oper)(σ:B5):Option (Nat×Bool)→Option Bool
 |none=>some true
 |some (j,b)=>match V5 ops j with
  |some t=>match lk σ t with
   |some (.bool true)=>some b
   |some (.bool false)=>some (!b)
   |some (.tuple ⟨[]⟩)=>some false
   |_=>none
  |none=>none
theorem B6D{ops:Array Oper}{σ:B5}{o:Oper}{c:Bool}(h:gS ops σ o.guard=some c):M6 ops σ o=some c:=by
 unfold gS at h;unfold M6
 split at h
 ·rename_i h1;rw[h1];exact h
 ·rename_i j b h1
  rw[h1]
  simp only
  split at h
  ·rename_i t h2
   rw[h2]
   split at h
   ·rename_i h3;simp only[Option.bind_some,h3];cases h;cases c <;> rfl
   ·rename_i h3;simp only[Option.bind_some,h3];cases h;cases b <;> rfl
   ·rename_i h3;simp only[Option.bind_some,h3];exact h
   ·cases h
  ·cases h
def B1b(N:Nat)(ops:Array Oper):Nat→B5→List Oper→Option (B5×List Oper×List Int)
 |0,σ,l=>some (σ,l,[])
 |_+1,_,[]=>none
 |n+1,σ,⟨some d,op,_,_,_,g⟩::l=>match Nat.ble (d+1) N with
  |false=>none
  |true=>match gS ops σ g with
   |some false=>B1b N ops n ((d,undef)::σ) l
   |some true=>match A9C σ op with
    |some (v,none)=>B1b N ops n ((d,v)::σ) l
    |some (v,some x)=>match B1b N ops n ((d,v)::σ) l with
     |some (σ',l',bs)=>some (σ',l',x::bs)
     |none=>none
    |none=>none
   |none=>none
 |_+1,_,⟨none,_,_,_,_,_⟩::_=>none
def A8W(N:Nat)(ops:Array Oper)(piv non:List Nat):Nat→B5→Plan→Option (B5×Plan×List Int)
 |0,σ,π=>some (σ,π,[])
 |n+1,σ,.cons i π=>match ops[i]? with
  |some ⟨some d,op,_,_,_,g⟩=>match Nat.ble (d+1) N with
   |false=>none
   |true=>match gS ops σ g with
    |some false=>A8W N ops piv non n ((d,undef)::σ) π
    |some true=>match piv.contains i,non.contains (i+100000)with
     |false,false=>match A9C σ op with
      |some (v,none)=>A8W N ops piv non n ((d,v)::σ) π
      |some (v,some x)=>match A8W N ops piv non n ((d,v)::σ) π with
       |some (σ',l',bs)=>some (σ',l',x::bs)
       |none=>none
      |none=>none
     |_,_=>none
    |none=>none
  |_=>none
 |_+1,_,_=>none
theorem WL.guard{M:Option Nat}{P:Program}{N:Nat}{ops:Array Oper}{Q:Exit→Act→World→Prop}{B:Base}{m:Mem}{H:List Ent}{σ:B5}{rest:List Oper}{d:Nat}{op:Op}{ty:TypeId}{pos:String}{after:Array Edge}{g:Option (Nat×Bool)}{c:Bool}(hg:gS ops σ g=some c)(hd:d<N)
 (ht:c=true→WL M P N ops Q B m H σ (⟨some d,op,ty,pos,after,none⟩::rest)) (hf:c=false→WL M P N ops Q B m H ((d,undef)::σ) rest):WL M P N ops Q B m H σ (⟨some d,op,ty,pos,after,g⟩::rest):=by
 unfold gS at hg
 split at hg
 ·cases hg;exact ht rfl
 ·rename_i j b
  split at hg
  ·rename_i t h2
   split at hg
   ·rename_i h3
    cases hg
    cases hb:c
    ·subst hb;exact WL.no (b:=false) h2 h3 rfl hd (hf rfl)
    ·subst hb;exact WL.yes h2 h3 (ht rfl)
   ·rename_i h3
    cases hg
    cases hb:b
    ·subst hb;exact WL.yes h2 h3 (ht rfl)
    ·subst hb;exact WL.no (b:=true) h2 h3 rfl hd (hf rfl)
   ·rename_i h3
    cases hg
    exact C6H h2 h3 hd (hf rfl)
   ·cases hg
  ·cases hg
set_option maxHeartbeats 1000000 in
theorem C6U{M:Option Nat}{P:Program}{N:Nat}{ops:Array Oper}{Q:Exit→Act→World→Prop}{B:Base}{m:Mem}{H:List Ent}(n:Nat){σ σ':B5}{l l':List Oper}{bs:List Int}(h:B1b N ops n σ l=some (σ',l',bs))(k:WL M P N ops Q B m H σ' l')
 (hb:okB bs:=by first|exact trivial|exact⟨by omega,trivial⟩|exact⟨by omega,by omega,trivial⟩|(repeat' (first|exact trivial|refine⟨by omega,?_⟩))):WL M P N ops Q B m H σ l:=by
 induction n generalizing σ l bs with
 |zero=>cases h;exact k
 |succ n ih=>
  match l,h with
  |⟨some d,op,ty,pos,after,g⟩::l,h=>
   unfold B1b at h
   split at h
   ·cases h
   ·rename_i hd
    have hd':=Nat.le_of_ble_eq_true hd
    split at h
    ·rename_i hg
     exact WL.guard hg hd' (fun e=>by cases e) (fun _=>ih h hb)
    ·rename_i hg
     refine WL.guard hg hd' (fun _=>?_) (fun e=>by cases e)
     split at h
     ·rename_i v he
      exact WL.x (A4u he (fun x hx=>by cases hx)) hd' (ih h hb)
     ·rename_i v x he
      split at h
      ·rename_i h2
       cases h
       exact WL.x (A4u he (fun y hy=>by cases hy;exact hb.1)) hd' (ih h2 hb.2)
      ·cases h
     ·cases h
    ·cases h
set_option maxHeartbeats 1000000 in
theorem C2H{P:Program}{B:Base}{N:Nat}{ops:Array Oper}{piv non:List Nat}{KK:Mem→List Ent→B5→Prop}{m:Mem}{H:List Ent}(n:Nat){σ σ':B5}{π π':Plan}{bs:List Int}(h:A8W N ops piv non n σ π=some (σ',π',bs))(k:DW P B N ops piv non KK false π' m H σ')
 (hb:okB bs:=by first|exact trivial|exact⟨by omega,trivial⟩|exact⟨by omega,by omega,trivial⟩|(repeat' (first|exact trivial|refine⟨by omega,?_⟩))):DW P B N ops piv non KK false π m H σ:=by
 induction n generalizing σ π bs with
 |zero=>cases h;exact k
 |succ n ih=>
  match π,h with
  | .cons i π,h=>
   unfold A8W at h
   split at h
   ·rename_i d op ty pos after g ho
    split at h
    ·cases h
    ·rename_i hd
     have hd':=Nat.le_of_ble_eq_true hd
     split at h
     ·rename_i hg
      exact DW.no ho (B6D (o:=⟨some d,op,ty,pos,after,g⟩) hg) hd' (ih h hb)
     ·rename_i hg
      split at h
      ·rename_i hp hn
       have hfr:∀V,non.contains (i+100000)=true→∀m' H',m.le m'→OpX P B m' H' σ op ty V:=fun V h=>by rw[hn]at h;cases h
       split at h
       ·rename_i v he
        exact DW.x ho (B6D (o:=⟨some d,op,ty,pos,after,g⟩) hg) (A4u he (fun x hx=>by cases hx)) hd' (ih h hb) hp (hfr _)
       ·rename_i v x he
        split at h
        ·rename_i h2
         cases h
         exact DW.x ho (B6D (o:=⟨some d,op,ty,pos,after,g⟩) hg) (A4u he (fun y hy=>by cases hy;exact hb.1)) hd' (ih h2 hb.2) hp (hfr _)
        ·cases h
       ·cases h
      ·cases h
     ·cases h
   ·cases h
section
variable{M:Option Nat}{P:Program}{N:Nat}{ops:Array Oper}{Q:Exit→Act→World→Prop}{B:Base}{m:Mem}{H:List Ent}{σ σ':B5}{l l':List Oper}{bs:List Int}{piv non:List Nat}{KK:Mem→List Ent→B5→Prop}{π π':Plan}
theorem d_2(k:DW P B N ops piv non KK false π' m H σ')(h:A8W N ops piv non 2 σ π=some (σ',π',bs):=by exact rfl)(hb:okB bs:=by first|exact trivial|exact⟨by omega,trivial⟩|exact⟨by omega,by omega,trivial⟩|(repeat' (first|exact trivial|refine⟨by omega,?_⟩))):DW P B N ops piv non KK false π m H σ:=C2H 2 h k hb
end
end Go.Kx
namespace Go.Kx
open Go
section
variable{P:Program}{B:Base}{m:Mem}{H:List Ent}{σ:B5}{ty:TypeId}
theorem T.makeMap{t:TypeId}:OpTo P B m H σ (.makeMap t none) ty (fun u m' H'=>m'=m∧∃b,u= .map (some b)∧H'=D7 b (.map #[] 0)::H):=
 .ofRun trivial (by intro x hx;simp[Op.operands]at hx) fun w hw o ho _=>by
  refine⟨.map (some w.heap.size),w.alloc (.map #[] 0),.inl (by simp[execOp,ho,Instr.makeMap,go_sem]),m,_,⟨rfl,_,rfl,rfl⟩,hw.laid _⟩
end
end Go.Kx
namespace Go.Kx
open Go
structure KeyT(P:Program)(t:TypeId)(α:Type)[Flat α][DecidableEq α]:Prop where
 und:∃fs,∀w,(underlying t).run P w= .ok (.struct fs) w
 chk:∀(em:Bool) (k:α) (w:World),(Instr.checkKey em 10000 t (.agg (Flat.enc k).toArray)).run P w= .ok () w
 eq:∀(a b:α) (w:World),(Op.equal t (.agg (Flat.enc a).toArray) (.agg (Flat.enc b).toArray)).run P w= .ok (decide (a=b)) w
 bits:∀k:α,Instr.sameBits 10000 (.agg (Flat.enc k).toArray) (.agg (Flat.enc k).toArray)=true
def A3D(α:Type)[Flat α](es:List MapEntry):Prop:=∀e∈es,∃k:α,e.key= .agg (Flat.enc k).toArray
def C2C{α:Type}[Flat α](k:α)(es:List MapEntry)(i:Nat)(r:Option (Nat×Value)):Prop:=
 ∀j v,r=some (j,v)→i≤j∧∃e,es[j-i]?=some e∧e.val=v∧e.key= .agg (Flat.enc k).toArray
theorem A5A{P:Program}{t:TypeId}{α:Type}[Flat α][DecidableEq α](h:KeyT P t α)(k:α):∀(es:List MapEntry) (i:Nat),A3D α es→
 ∃r,(∀w,(Instr.findAsking t (.agg (Flat.enc k).toArray) es i).run P w= .ok r w)∧C2C k es i r
 | [],i,_=>⟨none,fun w=>by simp[Instr.findAsking],fun j v h=>by cases h⟩
 |e::es,i,hk=>by
  obtain⟨k',hk'⟩:=hk e (List.mem_cons_self ..)
  obtain⟨r,ih,hf⟩:=A5A h k es (i+1) (fun e he=>hk e (List.mem_cons_of_mem _ he))
  by_cases hc:k=k'
  ·subst hc
   refine⟨some (i,e.val),fun w=>?_,fun j v hjv=>?_⟩
   ·rw[Instr.findAsking,hk']
    simp[h.eq]
   ·cases hjv
    exact⟨Nat.le_refl _,e,by simp,rfl,hk'⟩
  ·refine⟨r,fun w=>?_,fun j v hjv=>?_⟩
   ·rw[Instr.findAsking,hk']
    simp[h.eq,hc,ih]
   ·obtain⟨h1,e',h2,h3,h4⟩:=hf j v hjv
    refine⟨by omega,e',?_,h3,h4⟩
    rw[show j-i=(j-(i+1))+1 by omega]
    simpa using h2
theorem W9{P:Program}{t:TypeId}{α:Type}[Flat α][DecidableEq α](h:KeyT P t α)(k:α)(es:List MapEntry)(hk:A3D α es):
 ∃r,(∀w,(Instr.findKey t (.agg (Flat.enc k).toArray) es).run P w= .ok r w)∧C2C k es 0 r:=by
 obtain⟨fs,hu⟩:=h.und
 cases es with
 |nil=>exact⟨none,fun w=>by simp[Instr.findKey,hu,Instr.findNow],fun j v h=>by cases h⟩
 |cons e es=>
  obtain⟨r,h1,h2⟩:=A5A h k (e::es) 0 hk
  obtain⟨k',hk'⟩:=hk e (List.mem_cons_self ..)
  refine⟨r,fun w=>?_,h2⟩
  have:Instr.findNow (.struct fs) (.agg (Flat.enc k).toArray) (e::es) 0=none:=by simp[Instr.findNow,Instr.sameNow]
  simp[Instr.findKey,hu,this,h1]
theorem A0a{es:List MapEntry}{i:Nat}{f:MapEntry→MapEntry}{e:MapEntry}(h:e∈es.modify i f):e∈es∨∃e0,e0∈es∧e=f e0:=by
 obtain⟨j,hj⟩:=List.mem_iff_getElem?.1 h
 rw[List.getElem?_modify]at hj
 cases hq:es[j]? with
 |none=>rw[hq]at hj;simp at hj
 |some e0=>
  rw[hq]at hj
  simp only[Option.map_eq_map,Option.map_some,Option.some.injEq]at hj
  split at hj
  ·exact .inr ⟨e0,List.mem_of_getElem? hq,hj.symm⟩
  ·subst hj;exact .inl (List.mem_of_getElem? hq)
section
variable{P:Program}{B:Base}{m:Mem}{H:List Ent}{σ:B5}{ty:TypeId}
theorem I7{w:World}{r:Nat}{es:Array MapEntry}{clock:Nat}(hb:w.heap[r]?=some (.map es clock)):(getObj r).run P w= .ok (.map es clock) w:=by simp[getObj,Sem.run,hb]
theorem A0B{w:World}{r:Nat}{es:Array MapEntry}{clock:Nat}(o:Obj)(hb:w.heap[r]?=some (.map es clock)):(setObj r o).run P w= .ok () (w.putObj r o):=by simp[setObj,Sem.run,hb,World.putObj]
theorem E.lookup{x y:Operand}{t kt et:TypeId}{j b clock:Nat}{es:Array MapEntry}{α:Type}[Flat α][DecidableEq α]{k:α}{z:Value}(ht:∀w,(underlying t).run P w= .ok (.map kt et) w)(hK:KeyT P kt α)(hz:∀w,(zeroValue et).run P w= .ok z w)
 (hx:ev σ x=some (.map (some b))) (hy:ev σ y=some (.agg (Flat.enc k).toArray)) (hH:B2 H j=some (D7 b (.map es clock))) (hk:A3D α es.toList):
 E P B m H σ (.lookup t x y true) ty (fun p:Value×Bool=>.tuple #[p.1,.bool p.2]) (fun p=>(p.1=z∧p.2=false)∨(p.2=true∧∃e∈es.toList,e.val=p.1)):=by
 obtain⟨r,h1,h2⟩:=W9 hK k es.toList hk
 refine⟨match r with
  |some (_,v)=>(v,true)
  |none=>(z,false),.ofRun trivial (D0 rfl hx hy) fun w hw o ho _=>?_,?_⟩
 ·have hb:w.heap[b]?=some (.map es clock):=C1 hw hH
  simp only[execOp,ho,A6 hx,A6 hy]
  cases r with
  |none=>simp[Instr.lookup,ht,I7 hb,hK.chk,h1,hz]
  |some p=>obtain⟨i,v⟩:=p;simp[Instr.lookup,ht,I7 hb,hK.chk,h1]
 ·cases r with
  |none=>exact .inl ⟨rfl,rfl⟩
  |some p=>
   obtain⟨i,v⟩:=p
   obtain⟨_,e,h3,h4,_⟩:=h2 i v rfl
   exact .inr ⟨rfl,e,List.mem_of_getElem? h3,h4⟩
theorem T.mapUpdate{x y u:Operand}{t kt et:TypeId}{j b clock:Nat}{es:Array MapEntry}{α:Type}[Flat α][DecidableEq α]{k:α}{v:Value}(ht:∀w,(underlying t).run P w= .ok (.map kt et) w)(hK:KeyT P kt α)
 (hx:ev σ x=some (.map (some b))) (hy:ev σ y=some (.agg (Flat.enc k).toArray)) (hu:ev σ u=some v) (hH:B2 H j=some (D7 b (.map es clock))) (hk:A3D α es.toList):
 OpTo P B m H σ (.mapUpdate t x y u) ty (fun _ m' H'=>m'=m∧∃C7 clock',H'=H4 H j (D7 b (.map C7 clock'))∧A3D α C7.toList∧∀e∈C7.toList,e.val=v∨∃e0∈es.toList,e0.val=e.val):=by
 obtain⟨r,h1,h2⟩:=W9 hK k es.toList hk
 refine .ofRun trivial (A9B rfl hx hy hu) fun w hw o ho _=>?_
 have hb:w.heap[b]?=some (.map es clock):=C1 hw hH
 obtain⟨A,C,rfl,hup,_⟩:=U4 hH
 cases r with
 |none=>
  refine⟨undef,w.putObj b (.map (es.push {key:=.agg (Flat.enc k).toArray,val:=v,born:=clock}) (clock+1)),.inr ⟨?_,rfl⟩,m,H4 (A++D7 b (.map es clock)::C) j (D7 b (.map (es.push {key:=.agg (Flat.enc k).toArray,val:=v,born:=clock}) (clock+1))),⟨rfl,es.push {key:=.agg (Flat.enc k).toArray,val:=v,born:=clock},clock+1,rfl,fun e he=>?_,fun e he=>?_⟩,?_⟩
  ·simp[execOp,ho,A6 hx,A6 hy,A6 hu,Instr.mapUpdate,ht,I7 hb,hK.chk,h1,A0B _ hb]
  ·rcases(by simpa using he:e∈es∨e=_)with h3|rfl
   ·exact hk e (by simpa using h3)
   ·exact⟨k,rfl⟩
  ·rcases(by simpa using he:e∈es∨e=_)with h3|rfl
   ·exact .inr ⟨e,by simpa using h3,rfl⟩
   ·exact .inl rfl
  ·rw[hup];exact hw.turn
 |some p=>
  obtain⟨i,v0⟩:=p
  obtain⟨_,e1,h3,_,h4⟩:=h2 i v0 rfl
  have hold:((es[i]?).map (·.key)).getD (.agg (Flat.enc k).toArray)= .agg (Flat.enc k).toArray:=by
   rw[Nat.sub_zero,Array.getElem?_toList]at h3
   rw[h3];exact h4
  refine⟨undef,w.putObj b (.map (es.modify i fun e=>{e with key:=.agg (Flat.enc k).toArray,val:=v}) clock),.inr ⟨?_,rfl⟩,m,H4 (A++D7 b (.map es clock)::C) j (D7 b (.map (es.modify i fun e=>{e with key:=.agg (Flat.enc k).toArray,val:=v}) clock)),⟨rfl,es.modify i fun e=>{e with key:=.agg (Flat.enc k).toArray,val:=v},clock,rfl,fun e he=>?_,fun e he=>?_⟩,?_⟩
  ·simp[execOp,ho,A6 hx,A6 hy,A6 hu,Instr.mapUpdate,ht,I7 hb,hK.chk,h1,hold,Instr.keyThatStays,hK.bits,A0B _ hb]
  ·rw[Array.toList_modify]at he
   rcases A0a he with h5|⟨e0,h5,rfl⟩
   ·exact hk e h5
   ·exact⟨k,rfl⟩
  ·rw[Array.toList_modify]at he
   rcases A0a he with h5|⟨e0,h5,rfl⟩
   ·exact .inr ⟨e,h5,rfl⟩
   ·exact .inl rfl
  ·rw[hup];exact hw.turn
end
end Go.Kx
