import Derived.Test.YtooomcigmleneaaGreatKxL
import Derived.Laws.Cover3
set_option linter.all false
namespace Go.Kx
variable{a b:Int}{bd cap:Array Value}{e:TypeId}{f:FuncId}{i k:Nat}{l:List Operand}{n off:Nat}{p:Addr}{sz:Nat}{t t':TypeId}{ts:Array TypeId}{u:Value}{us:List Value}{v:Value}{vs:List Value}{x:Operand}{xs:List Value}{y:Operand}{α:Type}{L:List α}
section
variable{P:Program}{B:Base}{m:Mem}{H:List Ent}{σ:B5}{ty:TypeId}
theorem A7m(hf:Enters P f)(hx:ev σ x=some (.func (.func f) bd cap))(hl:Z5 σ l=some vs)(w:World)(o:Oper)
 (ho:o.op= .call (Call.mk (.value x) l.toArray ts)):(execOp (S2 σ) o).run P w= .ok (.enter f (bd++vs.toArray++cap)) w:=by
 have h1:=(A1B hl).1
 have h2:=hf (bd++vs.toArray++cap) w
 simp[execOp,ho,resolve,Deferred.ofValue,A6 hx,invoke]
 rw[show l.map (fun x=>S2 σ x)=vs from h1]
 simpa using h2
theorem C3s(hf:Enters P f)(hx:ev σ x=some (.func (.func f) bd cap))(hl:Z5 σ l=some vs)
 (hc:Exact P f (bd++vs.toArray++cap) m v):OpX P B m H σ (.call (Call.mk (.value x) l.toArray ts)) ty v:=
 ⟨trivial,A0j hx hl,fun w hw o a next Q ho ht k=>by
  rw[A7m hf hx hl w o ho]
  refine(hc w hw.sub).mono fun e w' hr=>?_
  have hx:=Ret.ext hr rfl
  obtain⟨u,m',H',rfl,hs,rfl⟩:=hr
  exact k w' hx⟩
theorem C8R{R:Mem→Value→Prop}(hf:Enters P f)(hx:ev σ x=some (.func (.func f) bd cap))(hl:Z5 σ l=some vs)
 (hc:Pure P f (bd++vs.toArray++cap) m R):OpTo P B m H σ (.call (Call.mk (.value x) l.toArray ts)) ty (fun v m' H'=>H'=H∧m.le m'∧R m' v):=
 ⟨trivial,A0j hx hl,fun M B w hw o a next Q ho ht k=>M4 M<| by
  rw[A7m hf hx hl w o ho]
  refine(hc w hw.sub).mono fun e w' hr=>?_
  obtain⟨u,m',H',rfl,hs,hR⟩:=hr
  exact k u m' H w' ⟨rfl,hs.le,hR⟩ (hw.called hs)⟩
theorem A0O{bd:List Operand}(hd:∀x∈bd,∃v,ev σ x=some v)(hc:bd.map (S2 σ)=vs):
 OpX P B m H σ (.makeFunc (.func f) bd.toArray #[]) ty (.func (.func f) vs.toArray #[]):=
 .ofRun trivial (by intro x hx;simp[Op.operands]at hx;exact hd x hx) fun w _ o ho _=>by simp[execOp,ho,Instr.makeFunc,hc]
theorem C3{A Hs:List Ent}{R:Mem→List Ent→Value→Prop}(hf:Enters P f)
 (hl:Z5 σ l=some vs) (hp:(Hs++A).Perm H)
 (hc:Mut P f vs.toArray m Hs R):OpTo P B m H σ (.call (Call.mk (.value (.func f)) l.toArray ts)) ty (fun v m' H'=>m.le m'∧∃Es,R m' Es v∧H'=Es++A):=
 ⟨trivial,A0j rfl hl,fun M B w hw o a next Q ho ht kk=>M4 M<| by
  rw[A1l hf hl w o ho]
  have hw':=hw.perm hp
  refine(hc w hw'.part).mono fun e' w' hr=>?_
  obtain⟨u,m',H',rfl,hs,hR⟩:=hr
  exact kk u m' _ w' ⟨hs.le,H',hR,rfl⟩ (hw'.handed hs)⟩
theorem W8{op:Op}{T:Value→Mem→List Ent→Prop}(hH:B2 H k=some (row v e sz n xs))(hs:notSel op)(hd:Kx.defd σ op)
 (h:v.oneCell'=true→OpTo P B m H σ op ty T):OpTo P B m H σ op ty T:=
 ⟨hs,hd,fun M B' w hw=>(h (by
  have hh:(row v e sz n xs).holds w:=C1 hw hH
  rcases hh.2 with⟨rfl,_⟩|⟨g,cap,cur,rfl,_⟩ <;> rfl)).run M B' w hw⟩
theorem C8I{op:Op}{V:Value}(hH:B2 H k=some (row v e sz n xs))(hs:notSel op)(hd:Kx.defd σ op)
 (h:v.oneCell'=true→OpX P B m H σ op ty V):OpX P B m H σ op ty V:=
 ⟨hs,hd,fun w hw=>(h (by
  have hh:(row v e sz n xs).holds w:=C1 hw hH
  rcases hh.2 with⟨rfl,_⟩|⟨g,cap,cur,rfl,_⟩ <;> rfl)).run w hw⟩
theorem OpTo.perm{op:Op}{T:Value→Mem→List Ent→Prop}{H':List Ent}(hp:H'.Perm H)(h:OpTo P B m H' σ op ty T):OpTo P B m H σ op ty T:=
 ⟨h.sel,h.defd,fun M B' w hw=>h.run M B' w (hw.perm hp)⟩
theorem B4l{s:TypeId}{fs:Array Field}{f:Field}{cs:List Value}(hu:∀w,(underlying s).run P w= .ok (.struct fs) w)(hf:fs[i]?=some f)
 (_hs:∀w,(sizeOf f.type).run P w= .ok 1 w) (hx:ev σ x=some (.agg cs.toArray)) (ha:∀w,(isAgg f.type).run P w= .ok false w) (hv:cs[f.offset]?=some v):OpX P B m H σ (.field s x i) ty v:=
 .ofRun trivial (I8 rfl hx) fun w _ o ho _=>by
  have hv':cs.toArray[f.offset]?=some v:=by simpa using hv
  simp only[execOp,ho,A6 hx,Instr.field,hu,hf,part,ha,asAgg,Sem.run_bind,Result.andThen_ok,Sem.run_pure,Bool.false_eq_true,if_false]
  rw[hv']
  rfl
def B2q:Value→Bool
 | .slice none _ _=>true
 |_=>false
theorem Sl.nil_of [Enc α](h:Sl m v L)(hn:B2q v=true):L=[]:=by
 cases h with
 |nil=>rfl
 |some a _ cap hs hc hb hcap h=>cases hn
theorem A1k [Enc α](hu:P.underlying t=some (.slice e))(hx:ev σ x=some v)(hy:ev σ y=some (.slice none 0 0))(hs:Sl m v L):
 OpX P B m H σ (.binOp .eql t x y t') ty (.bool (B2q v)):=
 .ofRun trivial (D0 rfl hx hy) fun w _ o ho _=>by
  cases hs with
  |nil=>
   have h:=run_equal_slice_nil (P:=P) w t e none 0 0 hu
   simp[execOp,ho,A6 hx,A6 hy,eqGuard,binOp,h,B2q]
  |some a _ cap hs hc hb hcap h'=>
   have h:=run_equal_slice_nil (P:=P) w t e (some a) L.length cap hu
   simp[execOp,ho,A6 hx,A6 hy,eqGuard,binOp,h,B2q]
theorem At.zero [Enc α]{x:α}(h:At m p x):At m (p.add 0) x:=by simpa[Addr.add]using h
theorem B4E{β:Type}{C us:List β}(h:off+us.length≤n)(hn:n≤C.length):
 (C.take off++us++C.drop (off+us.length)).take n=(C.take n).take off++us++(C.take n).drop (off+us.length):=by
 have hl:(C.take off++us).length=off+us.length:=by rw[List.length_append,List.length_take,Nat.min_eq_left (by omega)]
 rw[List.take_append,hl,List.take_of_length_le (by omega),List.take_take,Nat.min_eq_left (by omega),List.drop_take]
theorem A2D{w:World}(hw:St B m H w)(hH:B2 H k=some (row v e sz n xs))(h0:0<us.length)(ho:off+us.length≤xs.length)(h1:∀u∈us,u.oneCell'=true):
 ∃w',(storeCells (rp v off) us).run P w= .ok () w'∧St B m (H4 H k (row v e sz n (xs.take off++us++xs.drop (off+us.length)))) w':=by
 have hh:(row v e sz n xs).holds w:=C1 hw hH
 have hn:0<n:=by
  rcases Nat.eq_zero_or_pos n with h2|h2
  ·have:=hh.1;rw[h2,Nat.zero_mul]at this;omega
  ·exact h2
 obtain⟨g,cap,cur,rfl,hg,h3,h4,h5,h6⟩:=A3y hh hn
 have h7:xs.length≤cur.size:=by rw[←h6];simp;omega
 have hrun:=run_storeCells_at P g off e us 0 cur w hg (by simpa using Nat.le_trans ho h7) (by simpa using h1)
 simp only[Nat.add_zero]at hrun
 refine⟨_,hrun,hw.change hH rfl rfl rfl (by simp[World.setRow]) ?_ ?_ ?_ (by simp[row,Value.ownBlock])⟩
 ·intro c _ hc
  exact Kx.setRow_other w g _ c (by simpa[row,Value.ownBlock]using hc)
 ·have hlen:(xs.take off++us++xs.drop (off+us.length)).length=xs.length:=by simp;omega
  refine⟨by rw[hlen];exact hh.1,.inr ⟨g,cap,_,rfl,Nat.zero_le _,Kx.setRow_self' w g _ cur e _ hg,h3,h4,?_,?_⟩⟩
  ·simp;omega
  ·have hxl:xs.length=n*sz:=hh.1
   have hx:cur.toList.take xs.length=xs:=by rw[hxl];exact h6
   have:=B4E (C:=cur.toList) (us:=us) (off:=off) (n:=xs.length) ho (by simpa using h7)
   rw[hx]at this
   rw[←hxl]
   simpa using this
 ·intro c hc;exact .inl hc
theorem A9X{α:Type}[Flat α][Inhabited α]:∀{L:List α} {i:Nat},i<L.length→flat L=flat (L.take i)++(Flat.enc (gt L i)++flat (L.drop (i+1)))
 |x::L,0,_=>by simp[flat,gt]
 |x::L,i+1,h=>by
  have:=A9X (L:=L) (i:=i) (by simpa using h)
  have hs:gt (x::L) (i+1)=gt L i:=by simp[gt]
  rw[hs]
  simp only[List.take_succ_cons,List.drop_succ_cons]
  show Flat.enc x++flat L=(Flat.enc x++flat (L.take i))++_
  rw[this,List.append_assoc]
theorem C0d [Flat α][Inhabited α]{a:α}(h:i<L.length)(ho:off+us.length≤Flat.n α)
 (hs:(Flat.enc (gt L i)).take off++us++(Flat.enc (gt L i)).drop (off+us.length)=Flat.enc a):
 (flat L).take (i*Flat.n α+off)++us++(flat L).drop (i*Flat.n α+off+us.length)=flat (L.set i a):=by
 have hl:(flat (L.take i)).length=i*Flat.n α:=by rw[E7,List.length_take,Nat.min_eq_left (Nat.le_of_lt h)]
 have hset:flat (L.set i a)=flat (L.take i)++(Flat.enc a++flat (L.drop (i+1))):=by
  rw[List.set_eq_take_append_cons_drop,if_pos h,P8];rfl
 have he:(Flat.enc (gt L i)).length=Flat.n α:=Flat.len _
 rw[hset,A9X h,←hs]
 rw[List.take_append,hl,List.take_of_length_le (by omega),Nat.add_sub_cancel_left,List.take_append_of_le_length (by omega)]
 rw[Nat.add_assoc,List.drop_append,hl,List.drop_of_length_le (by omega),Nat.add_sub_cancel_left,List.drop_append_of_le_length (by omega)]
 simp[List.append_assoc]
theorem C6 [Flat α][Inhabited α](a:α)(hz:∀w,(sizeOf t).run P w= .ok sz w)
 (hx:ev σ x=some (.pointer (some (rp v (i*Flat.n α+off))))) (hy:ev σ y=some u) (hc:u.cells=us.toArray) (hl:us.length=sz) (h0:0<us.length) (hH:B2 H k=some (A5 v e L)) (hi:i<L.length)
 (ho:Nat.ble (off+us.length) (Flat.n α)=true) (hs:(Flat.enc (gt L i)).take off++us++(Flat.enc (gt L i)).drop (off+us.length)=Flat.enc a) (h1:∀u∈us,u.oneCell'=true):
 OpTo P B m H σ (.store t x y) ty (fun _ m' H'=>m'=m∧H'=H4 H k (A5 v e (L.set i a))):=
 .ofRun trivial (D0 rfl hx hy) fun w hw o hop _=>by
  have ho':=Nat.le_of_ble_eq_true ho
  have hlen:i*Flat.n α+off+us.length≤(flat L).length:=by
   rw[E7]
   have:(i+1)*Flat.n α≤L.length*Flat.n α:=Nat.mul_le_mul_right _ hi
   rw[Nat.add_mul]at this;omega
  obtain⟨w',hr,hs'⟩:=A2D (P:=P) (off:=i*Flat.n α+off) hw hH h0 hlen h1
  refine⟨undef,w',.inr ⟨by simp[execOp,hop,A6 hx,A6 hy,Instr.storeAt,Instr.sureAddr,storeVar,hz,hc,hl,hr],rfl⟩,m,_,⟨rfl,rfl⟩,?_⟩
  rw[C0d hi ho' hs]at hs'
  simpa[A5]using hs'
theorem B1S [Flat α][Inhabited α](h:i<L.length)(hu:(Flat.enc (gt L i))[off]?=some u):(flat L)[i*Flat.n α+off]?=some u:=by
 exact A4L L i _ (A0W h) off u hu
theorem Q0 [Flat α][Inhabited α](ha:∀w,(isAgg t).run P w= .ok false w)
 (hx:ev σ x=some (.pointer (some (rp v (i*Flat.n α+off))))) (hH:B2 H k=some (A5 v e L)) (hi:i<L.length) (hu:(Flat.enc (gt L i))[off]?=some u):OpX P B m H σ (.load t x) ty u:=
 M3 ha hx hH (B1S hi hu)
theorem B3f [Flat α][Inhabited α](ha:∀w,(isAgg t).run P w= .ok true w)(hz:∀w,(sizeOf t).run P w= .ok n w)
 (hx:ev σ x=some (.pointer (some (rp v (i*Flat.n α+off))))) (hH:B2 H k=some (A5 v e L)) (hi:i<L.length) (hn:us.length=n) (hu:((Flat.enc (gt L i)).drop off).take n=us):OpX P B m H σ (.load t x) ty (.agg us.toArray):=
 .ofRun trivial (I8 rfl hx) fun w hw o ho _=>by
  subst hn
  have hl:=run_loadCells_list (P:=P) w (rp v (i*Flat.n α+off)) us (fun j u hj=>by
   have hadd:(rp v (i*Flat.n α+off)).add j=rp v (i*Flat.n α+(off+j)):=by
    unfold rp;rw[B9 rfl,Nat.add_assoc]
   rw[hadd]
   refine(A4O (C1 hw hH) (B1S hi ?_)).1
   rw[←hu,List.getElem?_take]at hj
   split at hj
   ·simpa using hj
   ·cases hj)
  simp[execOp,ho,A6 hx,Instr.loadAt,Instr.sureAddr,loadVar,ha,hz,hl]
def wr(a:Int):Int:=IntKind.i64.wrap a
theorem A9q(h1: -9223372036854775808≤a)(h2:a≤9223372036854775807):wr a=a:=M9 h1 h2
theorem A5N(hx:ev σ x=some (.int .i64 a))(hy:ev σ y=some (.int .i64 b)):OpX P B m H σ (.binOp .add t x y t') ty (.int .i64 (wr (a+b))):=
 .ofRun trivial (D0 rfl hx hy) fun w _ o ho _=>by simp[execOp,ho,A6 hx,A6 hy,eqGuard,binOp,Op.intArith,wr]
theorem A9O(hx:ev σ x=some (.int .i64 a))(hy:ev σ y=some (.int .i64 b)):OpX P B m H σ (.binOp .sub t x y t') ty (.int .i64 (wr (a-b))):=
 .ofRun trivial (D0 rfl hx hy) fun w _ o ho _=>by simp[execOp,ho,A6 hx,A6 hy,eqGuard,binOp,Op.intArith,wr]
attribute [irreducible] wr
theorem C5t(hx:ev σ x=some (.int .i64 a))(hy:ev σ y=some (.int .i64 b))(hb:b≠0):
 OpX P B m H σ (.binOp .rem t x y t') ty (.int .i64 (a.tmod b)):=
 .ofRun trivial (D0 rfl hx hy) fun w _ o ho _=>by
  simp[execOp,ho,A6 hx,A6 hy,eqGuard,binOp,Op.intDiv,hb]
theorem B1I{e':TypeId}{i:Int}(j:Nat)(hu:∀w,(underlying t).run P w= .ok (.slice e) w)
 (hz:∀w,(sizeOf e).run P w= .ok sz w) (hx:ev σ x=some v) (hy:ev σ y=some (.int .i64 i)) (hH:B2 H k=some (row v e' sz n xs)) (hj:i=j) (h1:i<n):
 OpX P B m H σ (.indexAddr t x y) ty (.pointer (some (rp v (j*sz)))):=by subst hj;exact N7 hu hz hx hy hH (by omega) (by omega)
theorem A4r{e':TypeId}{L:List Int}{i:Int}(j:Nat)(hu:∀w,(underlying t).run P w= .ok (.slice e) w)
 (hz:∀w,(sizeOf e).run P w= .ok 1 w) (hx:ev σ x=some v) (hy:ev σ y=some (.int .i64 i)) (hH:B2 H k=some (A5 v e' L)) (hj:i=j) (h1:i<L.length):
 OpX P B m H σ (.indexAddr t x y) ty (.pointer (some (rp v j))):=by subst hj;exact A3A hu hz hx hy hH (by omega) (by omega)
end
section
variable{M:Option Nat}{P:Program}{N:Nat}{ops:Array Oper}{Q:Exit→Act→World→Prop}{B:Base}{m:Mem}{H:List Ent}{σ:B5}{rest:List Oper}
 {d:Nat} {op:Op} {ty:TypeId} {pos:String} {after:Array Edge} {i:Nat} {must:Bool} {π:Plan} {piv non:List Nat} {KK:Mem→List Ent→B5→Prop} {g:Option (Nat×Bool)}
theorem C8U{V:Value}(h:∀B,OpX P B m H σ op ty V):OpTo P B m H σ op ty (fun v m' H'=>v=V∧m'=m∧H'=H):=
 ⟨(h B).sel,(h B).defd,fun M B' w hw o a next Q ho ht k=>M4 M<| (h B').run w hw o a next Q ho ht fun w' hx=>k V m H w' ⟨rfl,rfl,rfl⟩ (hw.ext hx)⟩
theorem C9e{V:α→Value}{F:α→Prop}(B:Base)(h:∀B,E P B m H σ op ty V F):OpTo P B m H σ op ty (fun v m' H'=>(∃x,v=V x∧F x)∧m'=m∧H'=H):=by
 obtain⟨x0,h0,_⟩:=h B
 exact⟨h0.sel,h0.defd,fun M B' w hw o a next Q ho ht k=>M4 M<| by
  obtain⟨x,h1,h2⟩:=h B'
  exact h1.run w hw o a next Q ho ht fun w' hx=>k (V x) m H w' ⟨⟨x,rfl,h2⟩,rfl,rfl⟩ (hw.ext hx)⟩
end
section
variable{M:Option Nat}{P:Program}{N:Nat}{ops:Array Oper}{Q:Exit→Act→World→Prop}{B:Base}{m:Mem}{H:List Ent}{σ:B5}{rest:List Oper}
 {d:Nat} {op:Op} {ty:TypeId} {pos:String} {after:Array Edge} {i:Nat} {must:Bool} {π:Plan} {piv non:List Nat} {KK:Mem→List Ent→B5→Prop} {g:Option (Nat×Bool)}
theorem B5M [Flat α][Enc α][FlatEnc α]{m:Mem}(hu:∀(vs:List Value) (x:α),Enc.rd m vs x→vs=Flat.enc x):∀{xs:List Value} {L:List α},RdL m xs L→xs=flat L:=by
 intro xs L h
 have hsz:Enc.sz α=Flat.n α:=FlatEnc.sz
 apply List.ext_getElem?
 intro i
 have hl:xs.length=L.length*Flat.n α:=by rw[h.1,hsz]
 have hn:0<Flat.n α:=Flat.pos
 by_cases hi:i<xs.length
 ·have hq:i/Flat.n α<L.length:=by rw[Nat.div_lt_iff_lt_mul hn];omega
  have hr:i%Flat.n α<Flat.n α:=Nat.mod_lt _ hn
  obtain⟨vs,h1,h2⟩:=h.2 (i/Flat.n α) L[i/Flat.n α] (by simp[hq])
  have h1':vs=Flat.enc L[i/Flat.n α]:=hu _ _ h1
  subst h1'
  have hlen:(Flat.enc L[i/Flat.n α]).length=Flat.n α:=Flat.len _
  obtain⟨u,hu⟩:∃u,(Flat.enc L[i/Flat.n α])[i%Flat.n α]?=some u:=⟨_,List.getElem?_eq_getElem (show i%Flat.n α<(Flat.enc L[i/Flat.n α]).length by omega)⟩
  have h3:=h2 _ _ hu
  have h4:=A4L L (i/Flat.n α) _ (by simp[hq]) _ _ hu
  have he:i/Flat.n α*Flat.n α+i%Flat.n α=i:=by rw[Nat.mul_comm];exact Nat.div_add_mod i _
  rw[hsz,he]at h3
  rw[he]at h4
  rw[h3,h4]
 ·rw[List.getElem?_eq_none (by omega),List.getElem?_eq_none (by rw[E7];omega)]
theorem A0G [Flat α][Enc α][FlatEnc α](hu:∀(m:Mem) (vs:List Value) (x:α),Enc.rd m vs x→vs=Flat.enc x){s:Operand}{bytes:Nat}{z:Value}(hS:SlT P t e (Flat.n α) bytes z){M:List α}
 (hs:ev σ s=some v) (hx:ev σ x=some u) (hL:Sl m u L) (hH:B2 H k=some (A5 v e M))
 (hb:(M.length+L.length)*bytes≤140737488355328) (h63:M.length+L.length≤9223372036854775807):
 OpTo P B m H σ (.call (Call.mk (.builtin .append) #[s,x] #[t,t])) ty (fun v' m' H'=>m'=m∧H'=H4 H k (A5 v' e (M++L))):=by
 have hsz:Enc.sz α=Flat.n α:=FlatEnc.sz
 have:=Kx.T.appendS (P:=P) (B:=B) (m:=m) (ty:=ty) (α:=α) (by rw[hsz];exact hS) hs hx hL (by rw[hsz];exact hH) hb h63
 refine⟨this.sel,this.defd,fun M B w hw o ac next Q ho ht k'=>this.run M B w hw o ac next Q ho ht fun v' m' H' w' h hst=>k' v' m' H' w' ⟨h.1,?_⟩ hst⟩
 obtain⟨_,news,h1,h2⟩:=h
 rw[h2,B5M (hu _) h1,hsz]
 simp[A5,P8]
theorem A3m{R:Mem→List Ent→Value→Prop}(ho:ops[i]?=some ⟨some d,op,ty,pos,after,g⟩)(hp:piv.contains i=true)(hg:M6 ops σ ⟨some d,op,ty,pos,after,g⟩=some true)
 (h:OpTo P B m H σ op ty (fun v m' H'=>m.le m'∧∃Es,R m' Es v∧H'=Es++H)) (hd:d<N)
 (k:∀m' Es v,m.le m'→R m' Es v→DW P B N ops piv non KK false π m' (Es++H) ((d,v)::σ)):DW P B N ops piv non KK must (.cons i π) m H σ:=
 A1A ho hp hg h hd (fun _ v m' H' ⟨h1,Es,_,h3⟩=>by subst h3;exact⟨h1,List.sublist_append_right _ _⟩) (fun _ _ _ h=>h.1) fun v m' H' ⟨h1,Es,h2,h3⟩=>by subst h3;exact k m' Es v h1 h2
theorem H6{V:Value}(ho:ops[i]?=some ⟨some d,op,ty,pos,after,g⟩)(hnp:piv.contains i=false)(hg:M6 ops σ ⟨some d,op,ty,pos,after,g⟩=some true)(h:∀m' H',m.le m'→OpX P B m' H' σ op ty V)(hd:d<N)
 (k:DW P B N ops piv non KK false π m H ((d,V)::σ)):DW P B N ops piv non KK false (.cons i π) m H σ:=
 DW.x ho hg (h m H (Mem.le_refl _)) hd k hnp (fun _=>h)
theorem A5J{V:α→Value}{F:α→Prop}(ho:ops[i]?=some ⟨some d,op,ty,pos,after,g⟩)(hnp:piv.contains i=false)(hg:M6 ops σ ⟨some d,op,ty,pos,after,g⟩=some true)(h:∃x,(∀m' H',m.le m'→OpX P B m' H' σ op ty (V x))∧F x)(hd:d<N)
 (k:∀x,F x→DW P B N ops piv non KK false π m H ((d,V x)::σ)):DW P B N ops piv non KK false (.cons i π) m H σ:=by
 obtain⟨x,h1,h2⟩:=h;exact H6 ho hnp hg h1 hd (k x h2)
end
section
variable{P:Program}{B:Base}{m:Mem}{H:List Ent}{σ:B5}{ty:TypeId}
theorem C6J [Enc α][Inhabited α]{n:Int}(hu:∀w,(underlying t).run P w= .ok (.slice e) w)
 (hz:∀w,(sizeOf e).run P w= .ok (Enc.sz α) w) (hx:ev σ x=some v) (hy:ev σ y=some (.int .i64 n)) (hs:Sl m v L) (h0:0≤n) (h1:n<L.length):
 ∃p,(∀m' H',m.le m'→OpX P B m' H' σ (.indexAddr t x y) ty (.pointer (some p)))∧At m p (gt L n.toNat):=
 ⟨(A5E v).add (n.toNat*Enc.sz α),fun m' H' _=>.ofRun trivial (D0 rfl hx hy) fun w _ o ho _=>by
  cases hs with
  |nil=>simp at h1;omega
  |some a _ cap hs hc hb hcap h=>simp[execOp,ho,A6 hx,A6 hy,Instr.indexAt,asIntOf,hu,hz,h0,h1,A5E],hs.at (by omega)⟩
theorem C2V [Enc α][Inhabited α](n:Nat)(hu:∀w,(underlying t).run P w= .ok (.slice e) w)
 (hz:∀w,(sizeOf e).run P w= .ok (Enc.sz α) w) (hx:ev σ x=some v) (hy:ev σ y=some (.int .i64 (n:Int))) (hs:Sl m v L) (h1:(n:Int)<L.length):
 ∃p,(∀m' H',m.le m'→OpX P B m' H' σ (.indexAddr t x y) ty (.pointer (some p)))∧At m p (gt L n):=by
 have:=C6J (P:=P) (B:=B) (ty:=ty) hu hz hx hy hs (by omega) h1
 simpa using this
theorem C8N [Enc α][Inhabited α]{i:Int}(n:Nat)(hu:∀w,(underlying t).run P w= .ok (.slice e) w)
 (hz:∀w,(sizeOf e).run P w= .ok (Enc.sz α) w) (hx:ev σ x=some v) (hy:ev σ y=some (.int .i64 i)) (hs:Sl m v L) (hn:i=(n:Int)) (h1:i<L.length):
 ∃p,(∀m' H',m.le m'→OpX P B m' H' σ (.indexAddr t x y) ty (.pointer (some p)))∧At m p (gt L n):=by
 subst hn;exact C2V n hu hz hx hy hs h1
theorem C7Z [Enc α](ha:∀w,(isAgg t).run P w= .ok false w)(hx:ev σ x=some (.pointer (some p)))(hp:At m p L):
 ∃v,(∀m' H',m.le m'→OpX P B m' H' σ (.load t x) ty v)∧Sl m v L:=by
 obtain⟨vs,⟨v,hv,hs⟩,h2⟩:=hp
 subst hv
 exact⟨v,fun m' H' hle=>.ofRun trivial (I8 rfl hx) fun w hw o ho _=>by
  simp[execOp,ho,A6 hx,Instr.loadAt,Instr.sureAddr,loadVar,ha,(h2.mono hle).cell0 hw.sub],hs⟩
theorem A1w [Enc α]{a:α}(ha:∀w,(isAgg t).run P w= .ok true w)(hz:∀w,(sizeOf t).run P w= .ok (Enc.sz α) w)
 (hx:ev σ x=some (.pointer (some p))) (hp:At m p a):
 ∃vs:List Value,(∀m' H',m.le m'→OpX P B m' H' σ (.load t x) ty (.agg vs.toArray))∧Enc.rd m vs a:=by
 obtain⟨vs,h1,h2⟩:=hp
 exact⟨vs,fun m' H' hle=>.ofRun trivial (I8 rfl hx) fun w hw o ho _=>by
  have hl:=run_loadCells_list (P:=P) w p vs ((h2.mono hle).cell hw.sub)
  rw[Enc.len h1]at hl
  simp[execOp,ho,A6 hx,Instr.loadAt,Instr.sureAddr,loadVar,ha,hz,hl],h1⟩
end
end Go.Kx
