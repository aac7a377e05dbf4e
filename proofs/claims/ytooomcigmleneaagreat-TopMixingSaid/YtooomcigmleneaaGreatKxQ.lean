import Derived.Test.YtooomcigmleneaaGreatKxP
import Derived.Laws.CopyRow
import Derived.Test.YtooomcigmleneaaGreatKxJ
import Derived.Test.YtooomcigmleneaaGreatKxL
set_option linter.all false
namespace Go.Kx
section
variable{P:Program}{B:Base}{m:Mem}{H:List Ent}{σ:B5}{ty:TypeId}
theorem St.leAll{w:World}(hw:St B m H w):m.le (Mem.all w):=hw.sub
theorem St.rowSl{α:Type}[Enc α]{w:World}(hw:St B m H w){k:Nat}{v:Value}{e:TypeId}{xs:List Value}{L:List α}(hH:B2 H k=some (row v e (Enc.sz α) L.length xs))(hx:RdL m xs L)(hl:L.length≤C8):Sl (Mem.all w) v L:=by
 have hr:(row v e (Enc.sz α) L.length xs).holds w:=C1 hw hH
 have h2:=hw.leAll
 rcases hr.2 with⟨rfl,h0⟩|⟨g,cap,cur,rfl,_,hg,hnc,hcm,hcs,htake⟩
 ·have:L=[]:=List.eq_nil_of_length_eq_zero h0
  subst this;exact .nil
 ·refine .some _ _ _ (fun _=>rfl) hnc hl hcm ?_
  intro i x hix
  obtain⟨vs,h3,h4⟩:=hx.2 i x hix
  refine⟨vs,Enc.mono h2 h3,rfl,cur,e,(0,0),hg,?_⟩
  intro j u hu
  have h5:=h4 j u hu
  rw[←htake,List.getElem?_take]at h5
  split at h5
  ·simpa[Nat.add_assoc]using h5
  ·cases h5
theorem St.rowFSl{α:Type}[Flat α][Enc α][FlatEnc α]{w:World}(hw:St B m H w){k:Nat}{v:Value}{e:TypeId}{L:List α}(hH:B2 H k=some (A5 v e L))(hl:L.length≤C8):Sl (Mem.all w) v L:=
 hw.rowSl (by rw[FlatEnc.sz];exact hH) (RdL.flat m L) hl
theorem St.lent{m':Mem}{Es:List Ent}{w w':World}(hw:St B m H w)(h':St ⟨w,[],Mem.all w⟩ m' Es w'):St B m (Es++H) w':=by
 have he:Ext w w':=⟨h'.os,h'.tape,h'.output,h'.size,fun b hb=>h'.base b hb (by simp)⟩
 have h2:=hw.ext he
 have hEs:∀b∈B7 Es,w.heap.size≤b:=fun b hb=>by
  rcases h'.ids b hb with h3|h3
  ·exact absurd h3 (List.not_mem_nil)
  ·exact h3
 refine{h2 with own:=?_,ids:=?_,avoid:=?_,nodup:=?_}
 ·intro e hm
  rcases List.mem_append.1 hm with h3|h3
  ·exact h'.own e h3
  ·exact h2.own e h3
 ·intro b hb
  rw[E0]at hb
  rcases List.mem_append.1 hb with h3|h3
  ·exact .inr (Nat.le_trans hw.size (hEs b h3))
  ·exact hw.ids b h3
 ·intro b hb
  rw[E0]at hb
  rcases List.mem_append.1 hb with h3|h3
  ·cases hm:m b with
   |none=>rfl
   |some o=>exact absurd (hw.sub.lt hm) (Nat.not_lt.2 (hEs b h3))
  ·exact hw.avoid b h3
 ·rw[E0]
  refine List.nodup_append.2 ⟨h'.nodup,hw.nodup,?_⟩
  intro b hb c hc hbc
  subst hbc
  exact absurd (hw.lt hc) (Nat.not_lt.2 (hEs b hb))
theorem A7V{f:FuncId}{l:List Operand}{ts:Array TypeId}{vs:List Value}{v:Value}(hf:Enters P f)(hl:Z5 σ l=some vs)(hc:∀w,St B m H w→Exact P f vs.toArray (Mem.all w) v):
 OpX P B m H σ (.call (Call.mk (.value (.func f)) l.toArray ts)) ty v:=
 ⟨trivial,A0j rfl hl,fun w hw o a next Q ho ht k=>by
  rw[A1l hf hl w o ho]
  refine(hc w hw w (fun _ _ h=>h)).mono fun e w' hr=>?_
  have hx:=Ret.ext hr rfl
  obtain⟨u,m',H',rfl,hs,rfl⟩:=hr
  exact k w' hx⟩
theorem B4z{f:FuncId}{l:List Operand}{ts:Array TypeId}{vs:List Value}{R:List Ent→Value→Prop}(hf:Enters P f)(hl:Z5 σ l=some vs)(hc:∀B w,St B m H w→Own P f vs.toArray (Mem.all w) (fun _ Es v=>R Es v)):
 OpTo P B m H σ (.call (Call.mk (.value (.func f)) l.toArray ts)) ty (fun v m' H'=>m.le m'∧∃Es,R Es v∧H'=Es++H):=
 ⟨trivial,A0j rfl hl,fun M B w hw o a next Q ho ht kk=>M4 M<| by
  rw[A1l hf hl w o ho]
  have hin:St ⟨w,B7 [],Mem.all w⟩ (Mem.all w) [] w:=by
   refine⟨rfl,rfl,rfl,Nat.le_refl _,fun _ _ _=>rfl,fun _ _ h=>h,Mem.le_refl _,fun _ _=>rfl,by simp,by simp[B7],by simp[B7],by simp[B7]⟩
  refine(hc B w hw w hin).mono fun e' w' hr=>?_
  obtain⟨u,m',H',rfl,hs,hR⟩:=hr
  exact kk u m _ w' ⟨Mem.le_refl _,H',hR,rfl⟩ (hw.lent hs)⟩
theorem A9H{x y:Operand}{t t':TypeId}{a b:Int}(hx:ev σ x=some (.int .u64 a))(hy:ev σ y=some (.int .u64 b))(h0:0≤a+b)(h1:a+b≤9223372036854775807):
 OpX P B m H σ (.binOp .add t x y t') ty (.int .u64 (a+b)):=
 .ofRun trivial (D0 rfl hx hy) fun w _ o ho _=>by simp[execOp,ho,A6 hx,A6 hy,eqGuard,binOp,Op.intArith,Q1 h0 h1]
theorem A7K{x y:Operand}{t t':TypeId}{a b:Int}(hx:ev σ x=some (.int .u64 a))(hy:ev σ y=some (.int .u64 b))(h0:0≤a*b)(h1:a*b≤9223372036854775807):
 OpX P B m H σ (.binOp .mul t x y t') ty (.int .u64 (a*b)):=
 .ofRun trivial (D0 rfl hx hy) fun w _ o ho _=>by simp[execOp,ho,A6 hx,A6 hy,eqGuard,binOp,Op.intArith,Q1 h0 h1]
theorem B3s{x y:Operand}{t t':TypeId}{a:Int}(hx:ev σ x=some (.int .u64 a))(hy:ev σ y=some (.int .u64 4294967295))(h0:0≤a)(h1:a≤4294967295):
 OpX P B m H σ (.binOp .and t x y t') ty (.int .u64 a):=
 .ofRun trivial (D0 rfl hx hy) fun w _ o ho _=>by
  have hb:(BitVec.ofInt 64 a &&& BitVec.ofInt 64 4294967295).toNat=a.toNat:=by
   obtain⟨n,rfl⟩:∃n:Nat,a=n:=⟨a.toNat,by omega⟩
   have e1:BitVec.ofInt 64 (n:Int)=BitVec.ofNat 64 n:=by simp
   have e2:BitVec.ofInt 64 4294967295=BitVec.ofNat 64 4294967295:=rfl
   rw[e1,e2,BitVec.toNat_and,BitVec.toNat_ofNat,BitVec.toNat_ofNat]
   rw[Nat.mod_eq_of_lt (by omega),Nat.mod_eq_of_lt (by omega)]
   rw[show(4294967295:Nat)=2^32-1 by rfl,Nat.and_two_pow_sub_one_eq_mod,Nat.mod_eq_of_lt (by omega)]
   simp
  have hw2:IntKind.u64.wrap (a.toNat:Int)=a:=by rw[Q1 (by omega) (by omega)];omega
  have hb2:(BitVec.ofInt IntKind.u64.bits a &&& BitVec.ofInt IntKind.u64.bits 4294967295).toNat=a.toNat:=hb
  simp only[execOp,ho,A6 hx,A6 hy,eqGuard,binOp,Op.intBits,hb2,hw2]
  simp
theorem A5K{x y:Operand}{t t':TypeId}{a:Int}{k:IntKind}(hx:ev σ x=some (.int .u64 a))(hy:ev σ y=some (.int k 32))(h0:0≤a)(h1:a≤4294967295):
 OpX P B m H σ (.binOp .shr t x y t') ty (.int .u64 0):=
 .ofRun trivial (D0 rfl hx hy) fun w _ o ho _=>by
  have hd:a.fdiv 4294967296=0:=by rw[Int.fdiv_eq_ediv_of_nonneg a (show(0:Int)≤4294967296 by decide)];omega
  simp[execOp,ho,A6 hx,A6 hy,eqGuard,binOp,Op.shift,IntKind.bits,hd]
theorem A3B{x y:Operand}{t e:TypeId}{g n c sz:Nat}{q:Int}(k:Nat)(ht:P.underlying t=some (.slice e))(hz:∀w,(sizeOf e).run P w= .ok sz w)
 (hx:ev σ x=some (.slice (some ⟨g,0,none⟩) n c)) (hy:ev σ y=some (.int .i64 q)) (hq:q=k) (h1:k<n) (h2:n≤c):
 OpX P B m H σ (.slice t x (some y) none none) ty (.slice (some ⟨g,k*sz,none⟩) (n-k) (c-k)):=by
 subst hq
 have hadd:∀j:Nat,(⟨g,0,none⟩:Addr).add j=⟨g,j,none⟩:=fun j=>by rw[B9 rfl,Nat.zero_add]
 have he:P.elem t=e:=by simp[Program.elem,ht]
 have ht':P.underlying t=some (.slice (P.elem t)):=by rw[he];exact ht
 refine .ofRun trivial (A4e (l:=[x,y]) rfl (by simp only[List.mem_cons,forall_eq_or_imp,List.not_mem_nil,false_imp_iff,implies_true,and_true];exact⟨⟨_,hx⟩,⟨_,hy⟩⟩)) fun w _ o ho _=>?_
 have hr:=run_slice_l (P:=P) w t (some ⟨g,0,none⟩) n c ht' .i64 k (by omega) (by omega)
 rw[←run_sliceAt_slice (P:=P) w t _ _ _ _ ht',he,hz]at hr
 simp only[Result.andThen_ok,_root_.Go.sliced,Int.toNat_natCast,if_neg (show¬c=k by omega),Option.map_some,hadd]at hr
 simp[execOp,ho,A6 hx,A6 hy,hr]
theorem B2V{x y:Operand}{t e:TypeId}{g n c sz:Nat}{q:Int}(k:Nat)(ht:P.underlying t=some (.slice e))(hz:∀w,(sizeOf e).run P w= .ok sz w)
 (hx:ev σ x=some (.slice (some ⟨g,0,none⟩) n c)) (hy:ev σ y=some (.int .i64 q)) (hq:q=k) (h1:k<n) (h2:n≤c):
 OpX P B m H σ (.slice t x none (some y) none) ty (.slice (some ⟨g,0,none⟩) k c):=by
 subst hq
 have hadd:∀j:Nat,(⟨g,0,none⟩:Addr).add j=⟨g,j,none⟩:=fun j=>by rw[B9 rfl,Nat.zero_add]
 have he:P.elem t=e:=by simp[Program.elem,ht]
 have ht':P.underlying t=some (.slice (P.elem t)):=by rw[he];exact ht
 refine .ofRun trivial (A4e (l:=[x,y]) rfl (by simp only[List.mem_cons,forall_eq_or_imp,List.not_mem_nil,false_imp_iff,implies_true,and_true];exact⟨⟨_,hx⟩,⟨_,hy⟩⟩)) fun w _ o ho _=>?_
 have hr:=run_slice_h (P:=P) w t (some ⟨g,0,none⟩) n c ht' .i64 k (by omega) (by omega)
 rw[←run_sliceAt_slice (P:=P) w t _ _ _ _ ht',he,hz]at hr
 simp only[Result.andThen_ok,_root_.Go.sliced,Int.toNat_natCast,if_neg (show¬c=0 by omega),Option.map_some,hadd,Nat.zero_mul,Nat.sub_zero]at hr
 simp[execOp,ho,A6 hx,A6 hy,hr]
theorem A2Y{s x:Operand}{t t' e e':TypeId}{g off dl dc sl sc n0 c0 sz n k:Nat}{a:Addr}{xs:List Value}(cs:List Value)(ht:P.underlying t=some (.slice e))(hz:∀w,(sizeOf e).run P w= .ok sz w)
 (hd:ev σ s=some (.slice (some ⟨g,off,none⟩) dl dc)) (hx:ev σ x=some (.slice (some a) sl sc)) (hH:B2 H k=some (row (.slice (some ⟨g,0,none⟩) n0 c0) e' sz n xs))
 (hn:cs.length=min sl dl*sz) (hsrc:∀B w,St B m H w→∀j v,cs[j]?=some v→w.cell? (a.add j)=some v) (hfit:off+cs.length≤xs.length) (h0:0<cs.length) (h1:∀v∈cs,v.oneCell'=true):
 OpTo P B m H σ (.call (Call.mk (.builtin .copy) #[s,x] #[t,t'])) ty (fun v m' H'=>v= .int .i64 ((min sl dl:Nat):Int)∧m'=m∧H'=H4 H k (row (.slice (some ⟨g,0,none⟩) n0 c0) e' sz n (xs.take off++cs++xs.drop (off+cs.length)))):=
 ⟨trivial,D0 (by simp[Op.operands,Call.operands]) hd hx,fun M B w hw o ac next Q ho hty kk=>M4 M<| by
  have hl:=run_loadCells_list (P:=P) w a cs (hsrc B w hw)
  rw[hn]at hl
  obtain⟨w',hst,hs'⟩:=A2D (P:=P) hw hH h0 hfit h1
  have hst':(storeCells ⟨g,off,none⟩ cs).run P w= .ok () w':=hst
  have hr:(Builtin.copy_ #[t,t'] o.type #[.slice (some ⟨g,off,none⟩) dl dc,.slice (some a) sl sc]).run P w= .ok (goInt ((min sl dl:Nat):Int)) w':=by
   simp[Builtin.copy_,run_underlying ht,Builtin.lenOf,Builtin.firstCells,hz,hl,hst']
  have:=kk (.int .i64 ((min sl dl:Nat):Int)) m _ w' ⟨rfl,rfl,rfl⟩ hs'
  simp only[execOp,ho]
  simp[resolve,invoke,builtin,A6 hd,A6 hx,hr]
  exact this⟩
theorem A6a{α:Type}[Flat α]{L:List α}{k:Nat}(h:k≤L.length):(flat L).drop (k*Flat.n α)=flat (L.drop k):=by
 have h1:flat L=flat (L.take k)++flat (L.drop k):=by rw[←P8,List.take_append_drop]
 have h2:(flat (L.take k)).length=k*Flat.n α:=by rw[E7,List.length_take,Nat.min_eq_left h]
 rw[h1,←h2,List.drop_left]
theorem A3Z{α:Type}[Flat α]{L:List α}{k:Nat}(h:k≤L.length):(flat L).take (k*Flat.n α)=flat (L.take k):=by
 have h1:flat L=flat (L.take k)++flat (L.drop k):=by rw[←P8,List.take_append_drop]
 have h2:(flat (L.take k)).length=k*Flat.n α:=by rw[E7,List.length_take,Nat.min_eq_left h]
 rw[h1,←h2,List.take_left]
theorem A4X{α:Type}[Flat α](L:List α):∀v∈flat L,v.oneCell'=true:=by
 intro v hv
 unfold flat at hv
 rw[List.mem_flatMap]at hv
 obtain⟨x,_,hx⟩:=hv
 exact Flat.one x v hx
theorem C4M{α:Type}[Flat α][Enc α][FlatEnc α](hu:∀(m:Mem) (vs:List Value) (x:α),Enc.rd m vs x→vs=Flat.enc x){s x:Operand}{t t' e e':TypeId}{g n c k:Nat}{v:Value}{L C:List α}(ht:P.underlying t=some (.slice e))(hz:∀w,(sizeOf e).run P w= .ok (Flat.n α) w)
 (hd:ev σ s=some (.slice (some ⟨g,0,none⟩) n c)) (hx:ev σ x=some v) (hs:Sl m v C) (hH:B2 H k=some (A5 (.slice (some ⟨g,0,none⟩) n c) e' L)) (hL:L.length=n) (h0:0<C.length) (hC:C.length≤n):
 OpTo P B m H σ (.call (Call.mk (.builtin .copy) #[s,x] #[t,t'])) ty (fun v' m' H'=>v'= .int .i64 (C.length:Int)∧m'=m∧H'=H4 H k (A5 (.slice (some ⟨g,0,none⟩) n c) e' (C++L.drop C.length))):=by
 have hp:0<Flat.n α:=Flat.pos
 obtain⟨news,g1,g2,g3⟩:=hs.src
 have hnews:news=flat C:=B5M (hu _) g1
 subst hnews
 rcases g3 with⟨hv,rfl⟩|⟨p,cap,hv,_,g4⟩
 ·simp at h0
 ·have hcl:(flat C).length=C.length*Flat.n α:=E7 C
  have:=A2Y (P:=P) (B:=B) (m:=m) (H:=H) (σ:=σ) (ty:=ty) (t':=t') (flat C) ht hz hd (hx.trans (congrArg some hv)) hH (by rw[hcl,Nat.min_eq_left hC]) (fun B w hw j u hj=>by have:=g4 w hw.sub j u hj;simpa using this)
   (by rw[hcl,E7,hL,Nat.zero_add];exact Nat.mul_le_mul_right _ hC) (by rw[hcl];exact Nat.mul_pos h0 hp) (A4X C)
  rw[Nat.min_eq_left hC]at this
  refine⟨this.sel,this.defd,fun M B w hw o ac next Q ho ht k'=>this.run M B w hw o ac next Q ho ht fun v' m' H' w' h hst=>k' v' m' H' w' ⟨h.1,h.2.1,?_⟩ hst⟩
  rw[h.2.2,hcl,Nat.zero_add,A6a (by omega),List.take_zero,List.nil_append,←P8]
  have hl2:(C++L.drop C.length).length=L.length:=by simp;omega
  simp only[A5,hl2]
theorem C4m{α:Type}[Flat α]{s x:Operand}{t t' e e':TypeId}{g n c k a:Nat}{L:List α}(ht:P.underlying t=some (.slice e))(hz:∀w,(sizeOf e).run P w= .ok (Flat.n α) w)
 (hd:ev σ s=some (.slice (some ⟨g,a*Flat.n α,none⟩) (n-a) (c-a))) (hx:ev σ x=some (.slice (some ⟨g,0,none⟩) a c)) (hH:B2 H k=some (A5 (.slice (some ⟨g,0,none⟩) n c) e' L)) (hL:L.length=n) (h0:0<a) (hC:a<n):
 OpTo P B m H σ (.call (Call.mk (.builtin .copy) #[s,x] #[t,t'])) ty (fun v' m' H'=>v'= .int .i64 ((min a (n-a):Nat):Int)∧m'=m∧H'=H4 H k (A5 (.slice (some ⟨g,0,none⟩) n c) e' (L.take a++L.take (min a (n-a))++L.drop (a+min a (n-a))))):=by
 have hp:0<Flat.n α:=Flat.pos
 obtain⟨q,hq⟩:∃q,q=min a (n-a):=⟨_,rfl⟩
 rw[←hq]
 have hcl:(flat (L.take q)).length=q*Flat.n α:=by rw[E7,List.length_take,Nat.min_eq_left (by omega)]
 have hfit:(a+q)*Flat.n α≤n*Flat.n α:=Nat.mul_le_mul_right _ (by omega)
 rw[Nat.add_mul]at hfit
 have:=A2Y (P:=P) (B:=B) (m:=m) (H:=H) (σ:=σ) (ty:=ty) (t':=t') (flat (L.take q)) ht hz hd hx hH (by rw[hcl,hq]) (fun B w hw j u hj=>by
  have hj2:(flat L)[j]?=some u:=by
   rw[←A3Z (by omega),List.getElem?_take]at hj
   split at hj
   ·exact hj
   ·cases hj
  have h3:=(A4O (C1 hw hH) hj2).1
  have hadd:(⟨g,0,none⟩:Addr).add j=rp (.slice (some ⟨g,0,none⟩) n c) j:=by rw[B9 rfl,Nat.zero_add];rfl
  rw[hadd];exact h3)
  (by rw[hcl,E7,hL];exact hfit) (by rw[hcl];exact Nat.mul_pos (by omega) hp) (A4X _)
 rw[←hq]at this
 refine⟨this.sel,this.defd,fun M B w hw o ac next Q ho ht k'=>this.run M B w hw o ac next Q ho ht fun v' m' H' w' h hst=>k' v' m' H' w' ⟨h.1,h.2.1,?_⟩ hst⟩
 rw[h.2.2,hcl,←Nat.add_mul,A6a (by omega),A3Z (by omega),←P8,←P8]
 have hl2:(L.take a++L.take q++L.drop (a+q)).length=L.length:=by simp;omega
 simp only[A5,hl2]
theorem WK.form{N:Nat}{K:Act→World→Prop}{k:Nat}{v:Value}{e:TypeId}{sz n:Nat}{xs:List Value}(hH:B2 H k=some (row v e sz n xs))(hn:0<n)(kk:∀g c,v= .slice (some ⟨g,0,none⟩) n c→n≤c→WK N B m H σ K):WK N B m H σ K:=fun Ds w hw a ha=>by
 have hh:(row v e sz n xs).holds w:=C1 hw (U3 hH)
 obtain⟨g,cap,cur,h1,_,h3,_⟩:=A3y hh hn
 exact kk g cap h1 h3 Ds w hw a ha
end
section
variable{M:Option Nat}{P:Program}{N:Nat}{ops:Array Oper}{Q:Exit→Act→World→Prop}{B:Base}{m:Mem}{H:List Ent}{σ:B5}{rest:List Oper}
 {d:Nat} {op:Op} {ty:TypeId} {pos:String} {after:Array Edge} {i:Nat} {must:Bool} {π:Plan} {piv non:List Nat} {KK:Mem→List Ent→B5→Prop} {g:Option (Nat×Bool)}
theorem B7j{V:Value}{H1:List Ent}(h:OpTo P B m H σ op ty (fun v m' H'=>v=V∧m'=m∧H'=H1))(hd:d<N)(k:WL M P N ops Q B m H1 ((d,V)::σ) rest):WL M P N ops Q B m H σ (⟨some d,op,ty,pos,after,none⟩::rest):=
 O4 h hd fun v m' H' ⟨h0,h1,h2⟩=>by subst h0;subst h1;subst h2;exact k
theorem B6p{V:Value}{H1:List Ent}(ho:ops[i]?=some ⟨some d,op,ty,pos,after,g⟩)(hp:piv.contains i=true)(hn:non.contains i=true)(hg:M6 ops σ ⟨some d,op,ty,pos,after,g⟩=some true)
 (h:OpTo P B m H σ op ty (fun v m' H'=>v=V∧m'=m∧H'=H1)) (hd:d<N) (k:DW P B N ops piv non KK false π m H1 ((d,V)::σ)):DW P B N ops piv non KK must (.cons i π) m H σ:=
 A1A ho hp hg h hd (fun h'=>by rw[hn]at h';cases h') (fun _ _ _ h=>by rw[h.2.1];exact Mem.le_refl _) fun v m' H' ⟨h0,h1,h2⟩=>by subst h0;subst h1;subst h2;exact k
theorem A0L{g:Operand}{ps:List Nat}{assign body:Code}{gf:Nat}{lb:List Value}{n:Nat}{A:Nat→Mem→Array Value→Prop}
 (hg:ev σ g=some (.func (.func gf) #[] lb.toArray)) (eg:Enters P gf) {once:Bool} (hit:A1i P gf lb m once n A)
 {S G:Type} (HS:S→List Ent) (I:Nat→Mem→S→Prop) (Ix:Exit→Nat→Mem→S→Prop) (s0:S) (hH:HS s0=H) (h0:I 0 m s0) (hone:once=true→∀i m' s,¬I (i+1) m' s) (hmono:∀i m1 m2 s,m1.le m2→I i m1 s→I i m2 s)
 (hps:∀p∈ps,p<N) (hA:∀i m1 args,A i m1 args→args.size=ps.length)
 (HA:G→List Value→S→List Ent) (σA:G→List Value→B5)
 (hassign:∀l B' i m1 s args (K:Act→World→Prop),args.length=ps.length→A i m1 args.toArray→m.le m1→(∀g,WK N B' m1 (HA g args s) (σA g args) K)→WC (some l) P N (Exit.then K (fun _ _ _=>False)) B' m1 (HS s) ((ps.zip args).reverse++σ) assign)
 (hbody:∀l B' i m1 s args g,args.length=ps.length→i<n→m.le m1→A i m1 args.toArray→I i m1 s→WC (some l) P N (B2k B' m1 HS (I (i+1)) (fun e=>Ix e (i+1))) B' m1 (HA g args s) (σA g args) body)
 (hdone:∀m' s,m.le m'→I n m' s→WK N B m' (HS s) σ (Q .normal))
 (hret:∀i m' s,m.le m'→i≤n→Ix .ret i m' s→WK N B m' (HS s) σ (Q .ret))
 (hexit:∀id i m' s,m.le m'→i≤n→Ix (.exit id) i m' s→WK N B m' (HS s) σ (Q (.exit id))):
 WC none P N Q B m H σ (.rangeFunc g ps.toArray assign body):=by
 intro Ds w hw a ha
 subst hH
 refine wpIn_rangeFunc ?_
 intro fn hfn
 show∃(l:Nat) (mark:List Deferred) (w₁:World) (d:Deferred) (w₁':World) (f:FuncId) (args:Array Value) (w₂:World),(Instr.enterLoop fn a.tmps ps.toArray assign body none).run P w= .ok (l,mark) w₁∧_
 obtain⟨rec,hrec⟩:∃rec:LoopState→Option Code→Loop,rec=fun st pe=>{state:=st,pending:=pe,fn,tmps:=a.tmps,params:=ps.toArray,assign,body,defers:=w.heap.size}:=⟨_,rfl⟩
 have hen:=run_enterLoop_outer (P:=P) (w:=w) fn a.tmps ps.toArray assign body
 have hst1:=(hw.laid (.deferred (some []))).laid (.loop (rec .ready none))
 rw[World.size_alloc]at hst1
 obtain⟨W1,hW1⟩:∃W1,(w.alloc (.deferred (some []))).alloc (.loop (rec .ready none))=W1:=⟨_,rfl⟩
 rw[hW1]at hst1
 refine⟨w.heap.size+1,[mk w.heap.size],W1,{target:=.fn (.func gf) lb.toArray,args:=#[.func (.yield (w.heap.size+1)) #[] #[]]},W1,gf,
  (Value.func (.yield (w.heap.size+1)) #[] #[]::lb).toArray,W1,?_,?_,?_,?_,by simp[A2r],?_⟩
 ·rw[hen,←hW1,hrec];rfl
 ·have:=ha.eval hg
  simp only[resolve,this]
  simp[go_sem]
 ·intro f' _;exact A1a none f'
 ·simp only[invoke]
  rw[show(#[Value.func (Fn.yield (w.heap.size+1)) #[] #[]]++lb.toArray:Array Value)=(Value.func (Fn.yield (w.heap.size+1)) #[] #[]::lb).toArray by simp]
  exact eg _ _
 ·have hll:∀(w':World) (B':Base) (m':Mem) (H':List Ent) (o:Obj),St B' m' (H'++[D7 (w.heap.size+1) o]) w'→w'.heap[w.heap.size+1]?=some o:=fun w' B' m' H' o h=>h.own (D7 (w.heap.size+1) o) (by simp)
  have hper:((HS s0++[D7 (w.heap.size+1) (.loop (rec .ready none))])++(D7 w.heap.size (.deferred (some []))::marks Ds)).Perm
   (D7 (w.heap.size+1) (.loop (rec .ready none))::D7 w.heap.size (.deferred (some []))::(HS s0++marks Ds)):=by
   simp only[List.append_assoc,List.singleton_append]
   refine List.perm_middle.trans ?_
   exact List.Perm.cons _ List.perm_middle
  have hst2:=hst1.perm hper
  refine A5f none ?_
  refine(hit (w.heap.size+1) (S ⊕ (S×Exit)) (fun
   | .inl s=>HS s++[D7 (w.heap.size+1) (.loop (rec .ready none))]
   | .inr (s,e)=>HS s++[D7 (w.heap.size+1) (.loop (rec .done (some (A2y e))))])
   (fun i m' x=>match x with
    | .inl s=>I i m' s
    | .inr _=>False)
   (fun i m' x=>match x with
    | .inl _=>False
    | .inr (s,e)=>Ix e i m' s∧(e= .ret∨∃id,e= .exit id)) (.inl s0) (fun ho i m' x=>by rcases x with s|x;exact hone ho i m' s;exact fun h=>h) (fun i m1 m2 x hm h=>by rcases x with s|x;exact hmono i m1 m2 s hm h;exact h) ?_ h0 W1 hst2.part).mono ?_
  ·
    rintro i m1 x args hi hm1 hAi hI B' w' hw'
    rcases x with s|x
    ·have hrd:=hll _ _ _ _ _ hw'
     have hy:=run_yield (P:=P) (args:=args) hrd (by rw[hrec];simpa using hA i m1 args hAi)
     rw[hrec]at hy
     refine⟨fn,_,assign,body,hy,roundIn_of_wpIn trivial ?_⟩
     have hin:St ⟨w',B7 (HS s),m1⟩ m1 (HS s) w':=hw'.part
     obtain⟨hsz,hget⟩:=B1i ps args.toList a.tmps σ (fun u v hu=>ha.get u v hu) (fun p hp=>by rw[ha.size];exact hps p hp) (by simpa using(hA i m1 args hAi).symm)
     refine hassign (w.heap.size+1) _ i m1 s args.toList _ (by simpa using hA i m1 args hAi) (by simpa using hAi) hm1 ?_ [] w' (by simpa[marks]using hin) _ ⟨rfl,?_,?_⟩
     rotate_left
     ·simp only[←Array.foldl_toList];rw[Array.toList_zip];rw[hsz,ha.size]
     ·intro u v hu
      have:=hget u v hu
      simp only[←Array.foldl_toList];rw[Array.toList_zip];exact this
     ·intro g Ds' w1 hw1 a1 ha1
      have hs1:=hw'.handed hw1
      have hr1:=hll _ _ _ _ _ hs1
      refine⟨_,run_beginRound hr1 (by rw[hrec]),?_⟩
      have hs2:=hs1.turn (o':=.loop {rec .ready none with state:=.busy}) (R:=[])
      have hb:=hbody (w.heap.size+1) _ i m1 s args.toList g (by simpa using hA i m1 args hAi) hi hm1 (by simpa using hAi) hI Ds' _ hs2.part a1 ha1
      refine wpIn_mono hb ?_
      intro e a3 w3 hp
      have fin:∀(jump:Option Code) (m':Mem) (s':S),St ⟨w1.putObj (w.heap.size+1) (.loop {rec .ready none with state:=.busy}),B7 (HA g args.toList s++marks Ds'),m1⟩ m' (HS s') w3→
       (Instr.endRound (w.heap.size+1) jump).run P w3= .ok (.bool jump.isNone) (w3.putObj (w.heap.size+1) (.loop (rec (if jump.isNone then .ready else .done) jump)))∧
       St B' m' (HS s'++[D7 (w.heap.size+1) (.loop (rec (if jump.isNone then .ready else .done) jump))]) (w3.putObj (w.heap.size+1) (.loop (rec (if jump.isNone then .ready else .done) jump))):=by
       intro jump m' s' hs3
       have hs4:=hs2.handed hs3
       have hr4:=hll _ _ _ _ _ hs4
       have he:=run_endRound (P:=P) jump hr4
       refine⟨?_,?_⟩
       ·rw[he,hrec]
       ·exact hs4.turn (R:=[])
      cases e with
      |normal=>
       obtain⟨m',s',h1,h2,h3⟩:=hp
       obtain⟨h4,h5⟩:=fin none m' s' h3
       exact⟨_,_,h4,.inl ⟨rfl,m',_,⟨h1,.inl s',rfl,h2⟩,h5⟩⟩
      |ret=>
       obtain⟨m',s',h1,h2,h3⟩:=hp
       obtain⟨h4,h5⟩:=fin (some .ret) m' s' h3
       exact⟨_,_,h4,.inr ⟨rfl,m',_,⟨h1,.inr (s',.ret),rfl,h2,.inl rfl⟩,h5⟩⟩
      |exit id=>
       obtain⟨m',s',h1,h2,h3⟩:=hp
       obtain⟨h4,h5⟩:=fin (some (.exit id)) m' s' h3
       exact⟨_,_,h4,.inr ⟨rfl,m',_,⟨h1,.inr (s',.exit id),rfl,h2,.inr ⟨id,rfl⟩⟩,h5⟩⟩
      |goto t=>exact hp.elim
      |panic ch=>exact hp.elim
      |outgrown=>exact hp.elim
    ·exact hI.elim
  ·
    rintro e w2 ⟨v,m',Es,rfl,hs,x,rfl,hx⟩
    have hs':=hst2.handed hs
    have fin:∀(s:S) (r:Loop) (jump:Option Code),r.state≠ .busy→r.pending=jump→St B m' ((HS s++[D7 (w.heap.size+1) (.loop r)])++(D7 w.heap.size (.deferred (some []))::marks Ds)) w2→
     (Instr.endLoop (w.heap.size+1)).run P w2= .ok jump (w2.putObj (w.heap.size+1) (.loop {r with state:=.exhausted}))∧
     St B m' (HS s++marks (w.heap.size::Ds)) (w2.putObj (w.heap.size+1) (.loop {r with state:=.exhausted})):=by
     intro s r jump hr hj hs3
     have hr3:w2.heap[w.heap.size+1]?=some (.loop r):=hs3.own (D7 (w.heap.size+1) (.loop r)) (by simp)
     refine⟨by rw[←hj];exact run_endLoop hr3 hr,?_⟩
     have h4:St B m' (HS s++D7 (w.heap.size+1) (.loop r)::(D7 w.heap.size (.deferred (some []))::marks Ds)) w2:=by simpa using hs3
     have h5:=h4.turn (o':=.loop {r with state:=.exhausted})
     exact h5.weaken (List.Sublist.append_left (List.sublist_cons_self _ _) _)
    have hen':Env N (w.heap.size::Ds) σ {a with defers:=[mk w.heap.size]++a.defers}:=⟨by simp[ha.defers],ha.size,ha.get⟩
    rcases x with s|⟨s,e⟩
    ·rcases hx with hI|⟨i,_,hF⟩
     ·obtain⟨h1,h2⟩:=fin s (rec .ready none) none (by rw[hrec];simp) (by rw[hrec]) hs'
      refine⟨_,_,h1,?_⟩
      exact hdone m' s hs.le hI _ _ h2 _ hen'
     ·exact hF.elim
    ·rcases hx with hF|⟨i,hi,hIx,he⟩
     ·exact hF.elim
     ·obtain⟨h1,h2⟩:=fin s (rec .done (some (A2y e))) (some (A2y e)) (by rw[hrec];simp) (by rw[hrec]) hs'
      refine⟨_,_,h1,?_⟩
      rcases he with rfl|⟨id,rfl⟩
      ·exact wpIn_ret (hret i m' s hs.le hi hIx _ _ h2 _ hen')
      ·exact wpIn_exit (hexit id i m' s hs.le hi hIx _ _ h2 _ hen')
end
end Go.Kx
namespace Go.Kx
open Go
theorem A4o{z:Int}(h1:0≤z)(h2:z≤255):IntKind.u8.wrap z=z:=by
 simp only[IntKind.wrap,IntKind.bits,IntKind.signed]
 have:z%256=z:=Int.emod_eq_of_lt h1 (by omega)
 simp[this]
def A5D(b:ByteArray)(q:Int):Int:=((b[q.toNat]?).getD 0).toNat
theorem B8C(b:ByteArray)(q:Int):0≤A5D b q∧A5D b q≤255:=by
 unfold A5D
 have:=((b[q.toNat]?).getD 0).toNat_lt
 omega
section
variable{P:Program}{B:Base}{m:Mem}{H:List Ent}{σ:B5}{ty:TypeId}
theorem B4x{x y:Operand}{t:TypeId}{b:ByteArray}{k:IntKind}{q:Int}(hu:∀w,(underlying t).run P w= .ok .string w)(hx:ev σ x=some (.string b))(hy:ev σ y=some (.int k q))(h0:0≤q)(h1:q.toNat<b.size):
 OpX P B m H σ (.index t x y) ty (.int .u8 (A5D b q)):=
 .ofRun trivial (D0 rfl hx hy) fun w _ o ho _=>by
  have hb:b[q.toNat]?=some (b[q.toNat]'h1):=by simp[h1]
  simp[execOp,ho,Instr.index,asIntOf,A6 hx,A6 hy,hu,h0,hb,A5D]
theorem C0j{x y:Operand}{t:TypeId}{b:ByteArray}{k:IntKind}{q:Int}(n:Nat)(hu:∀w,(underlying t).run P w= .ok .string w)(hx:ev σ x=some (.string b))(hy:ev σ y=some (.int k q))(hb:b.size=n)(h0:0≤q)(h1:q<n):
 E P B m H σ (.index t x y) ty (fun r:Int=>.int .u8 r) (fun r=>0≤r∧r≤255):=⟨A5D b q,B4x hu hx hy h0 (by omega),B8C b q⟩
theorem A2e{x y:Operand}{t e:TypeId}{k off sz n:Nat}{v u:Value}{xs:List Value}(hz:∀w,(sizeOf t).run P w= .ok 1 w)
 (hx:ev σ x=some (.pointer (some (rp v off)))) (hy:ev σ y=some u) (hH:B2 H k=some (row v e sz n xs)) (hu:u.oneCell'=true) (ho:off<xs.length):
 OpTo P B m H σ (.store t x y) ty (fun _ m' H'=>m'=m∧H'=H4 H k (row v e sz n (xs.set off u))):=
 .ofRun trivial (D0 rfl hx hy) fun w hw o hop _=>by
  have hc:u.cells=#[u]:=F4 hu
  obtain⟨w',hr,hs⟩:=B1O (P:=P) (u:=u) (off:=off) hw hH ho hu
  exact⟨undef,w',.inr ⟨by simp[execOp,hop,A6 hx,A6 hy,Instr.storeAt,Instr.sureAddr,storeVar,hz,hc,hr],rfl⟩,m,_,⟨rfl,rfl⟩,hs⟩
theorem C0g{xs:List Value}{off:Nat}{v:Value}(h:xs[off]?=some v):xs.set off v=xs:=by
 apply List.ext_getElem?
 intro i
 rw[List.getElem?_set]
 split
 ·rename_i hi;subst hi
  have:off<xs.length:=(List.getElem?_eq_some_iff.1 h).1
  rw[if_pos this,h]
 ·rfl
theorem B0S{N:Nat}{K:Act→World→Prop}{k:Nat}{v:Value}{e:TypeId}{sz n:Nat}{xs:List Value}(hH:B2 H k=some (row v e sz n xs))(kk:v.oneCell'=true→WK N B m H σ K):WK N B m H σ K:=fun Ds w hw a ha=>by
 refine kk ?_ Ds w hw a ha
 have hh:(row v e sz n xs).holds w:=C1 hw (U3 hH)
 rcases hh.2 with⟨rfl,_⟩|⟨g,cap,cur,rfl,_⟩ <;> rfl
end
end Go.Kx
namespace Go.Kx
open Go
def A2i(a:Int):Prop:=0≤a∧a≤18446744073709551615
theorem B5i(z:Int):A2i (IntKind.u64.wrap z):=by
 simp only[A2i,IntKind.wrap,IntKind.bits,IntKind.signed]
 simp
 omega
section
variable{P:Program}{B:Base}{m:Mem}{H:List Ent}{σ:B5}{ty:TypeId}
theorem B8k{x y:Operand}{t t':TypeId}{a s:Int}{k:IntKind}(hx:ev σ x=some (.int .u64 a))(hy:ev σ y=some (.int k s))(hs:0≤s):
 E P B m H σ (.binOp .shl t x y t') ty (fun r:Int=>.int .u64 r) A2i:=
 ⟨IntKind.u64.wrap (a*2^(min s.toNat 64)),.ofRun trivial (D0 rfl hx hy) fun w _ o ho _=>by
  have:¬s<0:=by omega
  simp[execOp,ho,A6 hx,A6 hy,eqGuard,binOp,Op.shift,IntKind.bits,this],B5i _⟩
theorem C5p{x y:Operand}{t t':TypeId}{a s:Int}{k:IntKind}(hx:ev σ x=some (.int .u64 a))(hy:ev σ y=some (.int k s))(hs:0≤s)(ha:A2i a):
 E P B m H σ (.binOp .shr t x y t') ty (fun r:Int=>.int .u64 r) (fun r=>A2i r∧r≤a):=
 ⟨a.fdiv (2^(min s.toNat 64)),.ofRun trivial (D0 rfl hx hy) fun w _ o ho _=>by
  have:¬s<0:=by omega
  simp[execOp,ho,A6 hx,A6 hy,eqGuard,binOp,Op.shift,IntKind.bits,this],by
  have hp:(0:Int)<2^(min s.toNat 64):=Int.pow_pos (by decide)
  rw[Int.fdiv_eq_ediv_of_nonneg a (by omega)]
  have h1:=Int.ediv_nonneg ha.1 (show(0:Int)≤2^(min s.toNat 64) by omega)
  have h2:=Int.ediv_le_self (2^(min s.toNat 64)) ha.1
  have:=ha.2
  exact⟨⟨h1,by omega⟩,h2⟩⟩
theorem B3N{x y:Operand}{t t':TypeId}{a b:Int}(hx:ev σ x=some (.int .u64 a))(hy:ev σ y=some (.int .u64 b)):
 E P B m H σ (.binOp .xor t x y t') ty (fun r:Int=>.int .u64 r) A2i:=
 ⟨IntKind.u64.wrap (BitVec.ofInt 64 a ^^^ BitVec.ofInt 64 b).toNat,.ofRun trivial (D0 rfl hx hy) fun w _ o ho _=>by
  simp[execOp,ho,A6 hx,A6 hy,eqGuard,binOp,Op.intBits,IntKind.bits]
  have e:(BitVec.ofInt 64 a ^^^ BitVec.ofInt 64 b).toNat=(a%18446744073709551616).toNat ^^^ (b%18446744073709551616).toNat:=by
   rw[BitVec.toNat_xor,BitVec.toNat_ofInt,BitVec.toNat_ofInt];rfl
  exact congrArg (fun n:Nat=>IntKind.u64.wrap (n:Int)) e,B5i _⟩
theorem B9d{x y:Operand}{t t':TypeId}{a b:Int}(hx:ev σ x=some (.int .u64 a))(hy:ev σ y=some (.int .u64 b))(hb:A2i b):
 E P B m H σ (.binOp .and t x y t') ty (fun r:Int=>.int .u64 r) (fun r=>0≤r∧r≤b):=
 ⟨IntKind.u64.wrap (BitVec.ofInt 64 a &&& BitVec.ofInt 64 b).toNat,.ofRun trivial (D0 rfl hx hy) fun w _ o ho _=>by
  simp[execOp,ho,A6 hx,A6 hy,eqGuard,binOp,Op.intBits,IntKind.bits]
  have e:(BitVec.ofInt 64 a &&& BitVec.ofInt 64 b).toNat=(a%18446744073709551616).toNat &&& (b%18446744073709551616).toNat:=by
   rw[BitVec.toNat_and,BitVec.toNat_ofInt,BitVec.toNat_ofInt];rfl
  exact congrArg (fun n:Nat=>IntKind.u64.wrap (n:Int)) e,by
  have hn:(BitVec.ofInt 64 a &&& BitVec.ofInt 64 b).toNat≤b.toNat:=by
   rw[BitVec.toNat_and]
   refine Nat.le_trans Nat.and_le_right ?_
   rw[BitVec.toNat_ofInt]
   have h1:=hb.1
   have h2:=hb.2
   have:b%18446744073709551616=b:=Int.emod_eq_of_lt h1 (by omega)
   show(b%18446744073709551616).toNat≤b.toNat
   rw[this];exact Nat.le_refl _
  have h1:=hb.1
  have h2:=hb.2
  have hw:∀n:Nat,n≤b.toNat→IntKind.u64.wrap (n:Int)=n:=fun n h=>by
   simp only[IntKind.wrap,IntKind.bits,IntKind.signed]
   simp
   omega
  rw[hw _ hn]
  omega⟩
theorem B4n{x y:Operand}{t t':TypeId}{a s:Int}{k:IntKind}(c:Int)(hx:ev σ x=some (.int .u64 a))(hy:ev σ y=some (.int k s))(hs:0≤s)(hc:(2:Int)^(min s.toNat 64)=c):
 OpX P B m H σ (.binOp .shr t x y t') ty (.int .u64 (a/c)):=
 .ofRun trivial (D0 rfl hx hy) fun w _ o ho _=>by
  have h1:¬s<0:=by omega
  have hp:(0:Int)<2^(min s.toNat 64):=Int.pow_pos (by decide)
  have hd:a.fdiv (2^(min s.toNat 64))=a/c:=by rw[Int.fdiv_eq_ediv_of_nonneg a (by omega),hc]
  simp[execOp,ho,A6 hx,A6 hy,eqGuard,binOp,Op.shift,IntKind.bits,h1,hd]
theorem A4Y{x y:Operand}{t:TypeId}{b:ByteArray}{k:IntKind}{q:Int}(n:Nat)(f:Nat→Nat→Bool)(hu:∀w,(underlying t).run P w= .ok .string w)(hx:ev σ x=some (.string b))(hy:ev σ y=some (.int k q))(hb:b.size=n)(hall:(List.range n).all (fun i=>f i ((b[i]?).getD 0).toNat)=true)(h0:0≤q)(h1:q<n):
 E P B m H σ (.index t x y) ty (fun r:Nat=>.int .u8 r) (fun r=>f q.toNat r=true∧r≤255):=
 ⟨((b[q.toNat]?).getD 0).toNat,B4x hu hx hy h0 (by omega),List.all_eq_true.1 hall _ (List.mem_range.2 (by omega)),by have:=((b[q.toNat]?).getD 0).toNat_lt;omega⟩
theorem C2f{x y:Operand}{t t':TypeId}{r:Nat}{k:IntKind}(hx:ev σ x=some (.int .u64 1))(hy:ev σ y=some (.int k r))(hr:r≤62):
 OpX P B m H σ (.binOp .shl t x y t') ty (.int .u64 ((2:Int)^r)):=
 .ofRun trivial (D0 rfl hx hy) fun w _ o ho _=>by
  have h1:¬(r:Int)<0:=by omega
  have h2:min r 64=r:=by omega
  have h3:(2:Int)^r≤2^62:=by
   have:=Nat.pow_le_pow_right (show 0<2 by decide) hr
   exact_mod_cast this
  have h4:(0:Int)<2^r:=Int.pow_pos (by decide)
  have h5:IntKind.u64.wrap ((2:Int)^r)=2^r:=Q1 (by omega) (by omega)
  simp[execOp,ho,A6 hx,A6 hy,eqGuard,binOp,Op.shift,IntKind.bits,h2,h5]
  intro h;exact absurd h h1
theorem B8m{x y:Operand}{t t':TypeId}{a b:Int}(hx:ev σ x=some (.int .u64 a))(hy:ev σ y=some (.int .u64 b))(h0:0≤a-b)(h1:a-b≤9223372036854775807):
 OpX P B m H σ (.binOp .sub t x y t') ty (.int .u64 (a-b)):=
 .ofRun trivial (D0 rfl hx hy) fun w _ o ho _=>by simp[execOp,ho,A6 hx,A6 hy,eqGuard,binOp,Op.intArith,Q1 h0 h1]
end
end Go.Kx
namespace Go.Kx
open Go
structure RawV where
 v:Value
 one:v.oneCell'=true
instance:Inhabited RawV:=⟨⟨.slice none 0 0,rfl⟩⟩
instance:Flat RawV:=⟨1,by decide,fun x=>[x.v],fun _=>rfl,fun x v hv=>by simp at hv;subst hv;exact x.one⟩
theorem St.rowSlA{B:Base}{m:Mem}{H:List Ent}{α:Type}[Enc α]{w:World}(hw:St B m H w){k:Nat}{v:Value}{e:TypeId}{xs:List Value}{L:List α}(hH:B2 H k=some (row v e (Enc.sz α) L.length xs))(hx:RdL (Mem.all w) xs L)(hl:L.length≤C8):Sl (Mem.all w) v L:=by
 have hr:(row v e (Enc.sz α) L.length xs).holds w:=C1 hw hH
 rcases hr.2 with⟨rfl,h0⟩|⟨g,cap,cur,rfl,_,hg,hnc,hcm,hcs,htake⟩
 ·have:L=[]:=List.eq_nil_of_length_eq_zero h0
  subst this;exact .nil
 ·refine .some _ _ _ (fun _=>rfl) hnc hl hcm ?_
  intro i x hix
  obtain⟨vs,h3,h4⟩:=hx.2 i x hix
  refine⟨vs,h3,rfl,cur,e,(0,0),hg,?_⟩
  intro j u hu
  have h5:=h4 j u hu
  rw[←htake,List.getElem?_take]at h5
  split at h5
  ·simpa[Nat.add_assoc]using h5
  ·cases h5
theorem B5V{α:Type}[Enc α]{m:Mem}:∀{vs:List Value} {M:List (List α)} {i:Nat},RdVs m vs M→(∀v∈vs,v.cells=#[v])→i<M.length→Sl m (gt vs i) (gt M i)
 | [],[],_,_,_,h=>by simp at h
 | [],_::_,_,h,_,_=>h.elim
 |_::_,[],_,h,_,_=>h.elim
 |v::vs,L::M,0,h,ho,_=>by
  obtain⟨⟨ws,hw,u,rfl,hu⟩,_⟩:=h
  rw[A1n,A1n]
  have h1:v.cells=#[u]:=hw
  rw[ho v (List.mem_cons_self ..)]at h1
  have h2:v=u:=by simpa using h1
  rw[h2];exact hu
 |v::vs,L::M,i+1,h,ho,hi=>by
  rw[A1D,A1D]
  exact B5V h.2 (fun w hw=>ho w (List.mem_cons_of_mem _ hw)) (by simpa using hi)
theorem B3p{N:Nat}{B:Base}{m:Mem}{H:List Ent}{σ:B5}{K:Act→World→Prop}{α:Type}[Flat α][Enc α][FlatEnc α]{e:TypeId}{k:Nat}{vs:List Value}{M:List (List α)}(hX:B.X=[])(hH:B2 H k=some (M2 (J6 e vs M)))(hlen:vs.length=M.length)(hb:∀L∈M,L.length≤C8)
 (kk:∀m',m.le m'→(∀i,i<M.length→Sl m' (gt vs i) (gt M i))→WK N B m' (Z4 H k) σ K):WK N B m H σ K:=by
 obtain⟨A,C,rfl,hu,hd⟩:=U4 hH
 rw[hd]at kk
 refine WK.st (H':=J6 e vs M++(A++C)) (fun{Hm w} hw=>?_) ?_
 ·have h1:=(hw.perm (H':=M2 (J6 e vs M)::(A++C++Hm)) (by
   simp only[List.append_assoc,List.cons_append]
   exact List.perm_middle.symm)).unpack
  simpa using h1
 ·exact A5k hX hlen hb fun m' h1 h2=>kk m' h1 fun i hi=>B5V h2.1 h2.2 hi
theorem C2u{α:Type}[Enc α]{m:Mem}{ws:List Value}{L:List (List α)}{i:Nat}{v:Value}{x:List α}(h:RdL m ws L)(hv:Sl m v x)(hi:i<L.length):RdL m (ws.set i v) (L.set i x):=by
 have hl:ws.length=L.length*1:=h.1
 refine⟨by rw[List.length_set,List.length_set];exact h.1,fun j y hj=>?_⟩
 rw[List.getElem?_set]at hj
 split at hj
 ·rename_i he
  subst he
  cases hj
  refine⟨[v],⟨v,rfl,hv⟩,fun q u hu=>?_⟩
  match q,hu with
  |0,hu=>
   cases hu
   show(ws.set i v)[i*1+0]?=some v
   rw[Nat.mul_one,Nat.add_zero];simp[show i<ws.length by omega]
 ·rename_i he
  obtain⟨us,h1,h2⟩:=h.2 j y hj
  refine⟨us,h1,fun q u hu=>?_⟩
  have h3:=h2 q u hu
  obtain⟨z,rfl,_⟩:=h1
  match q,hu with
  |0,hu=>
   have h4:j*Enc.sz (List α)+0=j:=Nat.mul_one j
   rw[h4]at h3⊢
   rw[List.getElem?_set,if_neg he];exact h3
theorem C1c{α:Type}[Enc α](m:Mem)(n:Nat):RdL m (List.replicate n (.slice none 0 0)) (List.replicate n ([]:List α)):=by
 refine⟨by simp;exact(Nat.mul_one n).symm,fun j y hj=>?_⟩
 obtain⟨h1,h2⟩:=List.getElem?_eq_some_iff.1 hj
 rw[List.length_replicate]at h1
 rw[List.getElem_replicate]at h2
 subst h2
 refine⟨[.slice none 0 0],⟨_,rfl,.nil⟩,fun q u hu=>?_⟩
 match q,hu with
 |0,hu=>
  cases hu
  have h4:j*Enc.sz (List α)+0=j:=Nat.mul_one j
  rw[h4];simp[h1]
theorem C3T{α:Type}[Enc α]{m:Mem}{v u:Value}{L M:List α}(h1:Sl m v L)(h2:Sl m u M):RdL m [v,u] [L,M]:=
 X6 (xs:=[v]) (vs:=[u]) (L:=[L]) (a:=M) (X6 (xs:=[]) (vs:=[v]) (L:=[]) (a:=L) RdL.nil ⟨v,rfl,h1⟩) ⟨u,rfl,h2⟩
theorem C3b{v u:Value}(h1:v.oneCell'=true)(h2:u.oneCell'=true):[v,u].flatMap (fun v=>v.cells.toList)=flat (α:=RawV) [⟨v,h1⟩,⟨u,h2⟩]:=by
 simp[flat,Flat.enc,F4 h1,F4 h2]
section
variable{P:Program}{B:Base}{N:Nat}{ops:Array Oper}{piv non:List Nat}{KK:Mem→List Ent→B5→Prop}{must:Bool}{m:Mem}{H:List Ent}{σ:B5}{i:Nat}{d:Nat}{op:Op}{ty:TypeId}{pos:String}{after:Array Edge}{g:Option (Nat×Bool)}{π:Plan}
theorem C7P{A:List Ent}{T F:Mem→List Ent→Prop}(ho:ops[i]?=some ⟨some d,op,ty,pos,after,g⟩)(hp:piv.contains i=true)(hn:non.contains i=true)(hg:M6 ops σ ⟨some d,op,ty,pos,after,g⟩=some true)
 (h:OpTo P B m H σ op ty (fun v m' H''=>∃H',H''=A++H'∧((v= .bool true∧T m' H')∨(v= .bool false∧F m' H')))) (hT:∀m' H',T m' H'→m.le m') (hF:∀m' H',F m' H'→m.le m') (hd:d<N)
 (kt:∀m' H',T m' H'→DW P B N ops piv non KK false π m' (A++H') ((d,.bool true)::σ)) (kf:∀m' H',F m' H'→DW P B N ops piv non KK false π m' (A++H') ((d,.bool false)::σ)):DW P B N ops piv non KK must (.cons i π) m H σ:=
 A1A ho hp hg h hd (fun h'=>by rw[hn]at h';cases h') (fun _ m' _ ⟨H',_,hv⟩=>by rcases hv with⟨_,h1⟩|⟨_,h1⟩;exact hT m' H' h1;exact hF m' H' h1) fun v m' H'' ⟨H',hH,hv⟩=>by
  subst hH
  rcases hv with⟨rfl,h1⟩|⟨rfl,h1⟩
  ·exact kt m' H' h1
  ·exact kf m' H' h1
theorem A4d{x:Operand}{t e:TypeId}{k off sz n q:Nat}{v:Value}{xs us:List Value}(ha:∀w,(isAgg t).run P w= .ok true w)(hz:∀w,(sizeOf t).run P w= .ok q w)
 (hx:ev σ x=some (.pointer (some (rp v off)))) (hH:B2 H k=some (row v e sz n xs)) (hn:us.length=q) (hu:∀j u,us[j]?=some u→xs[off+j]?=some u):OpX P B m H σ (.load t x) ty (.agg us.toArray):=
 .ofRun trivial (I8 rfl hx) fun w hw o ho _=>by
  subst hn
  have hl:=run_loadCells_list (P:=P) w (rp v off) us (fun j u hj=>by
   have hadd:(rp v off).add j=rp v (off+j):=by
    unfold rp;rw[B9 rfl]
   rw[hadd]
   exact(A4O (C1 hw hH) (hu j u hj)).1)
  simp[execOp,ho,A6 hx,Instr.loadAt,Instr.sureAddr,loadVar,ha,hz,hl]
theorem B2h{x y:Operand}{t e:TypeId}{k off sz n:Nat}{v u w:Value}{xs:List Value}(hz:∀w,(sizeOf t).run P w= .ok 1 w)
 (hx:ev σ x=some (.pointer (some (rp v off)))) (hy:ev σ y=some u) (hH:B2 H k=some (row v e sz n (xs.set off w))) (hu:u.oneCell'=true) (ho:off<xs.length):
 OpTo P B m H σ (.store t x y) ty (fun _ m' H'=>m'=m∧H'=H4 H k (row v e sz n (xs.set off u))):=by
 have h:=A2e (P:=P) (B:=B) (m:=m) (ty:=ty) hz hx hy hH hu (by rw[List.length_set];exact ho)
 rwa [List.set_set]at h
end
end Go.Kx
namespace Go.Kx
open Go
variable{P:Program}{B:Base}{m:Mem}{H:List Ent}{σ:B5}{ty:TypeId}
end Go.Kx
