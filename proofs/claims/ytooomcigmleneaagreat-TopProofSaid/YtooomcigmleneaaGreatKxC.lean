import Derived.Test.YtooomcigmleneaaGreatKxB
import Derived.IntWalk
import Derived.Laws.AppendOwn
import Derived.Laws.Cells
import Derived.Laws.MakeOwn
import Derived.Laws.CopyRow
set_option linter.all false
namespace Go.Kx
def Cells(m:Mem)(p:Addr)(vs:List Value):Prop:=
 p.spot=none∧∃cs T fz,m p.block=some (.cells cs T fz)∧∀j v,vs[j]?=some v→cs[p.off+j]?=some v
class Enc(α:Type) where
 sz:Nat
 pos:0<sz
 rd:Mem→List Value→α→Prop
 len:∀{m vs x},rd m vs x→vs.length=sz
 mono:∀{m m':Mem} {vs x},m.le m'→rd m vs x→rd m' vs x
 one:∀{m vs x},rd m vs x→∀v∈vs,v.oneCell'=true
class Flat(α:Type) where
 n:Nat
 pos:0<n
 enc:α→List Value
 len:∀x,(enc x).length=n
 one:∀x,∀v∈enc x,v.oneCell'=true
abbrev G8(α:Type)[Flat α]:Enc α where
 sz:=Flat.n α
 pos:=Flat.pos
 rd _ vs x:=vs=Flat.enc x
 len h:=by rw[h];exact Flat.len _
 mono _ h:=h
 one h:=by rw[h];exact Flat.one _
instance:Flat Int:=⟨1,by decide,fun x=>[.int .i64 x],fun _=>rfl,fun _ v a=>by simp at a;subst a;rfl⟩
instance:Flat Bool:=⟨1,by decide,fun x=>[.bool x],fun _=>rfl,fun _ v a=>by simp at a;subst a;rfl⟩
instance:Enc Int:=G8 Int
instance:Enc Bool:=G8 Bool
def gt{α:Type}[Inhabited α](L:List α)(k:Nat):α:=L.getD k default
theorem S9{α:Type}[Inhabited α]{L:List α}{k:Nat}(h:k<L.length):L[k]?=some (gt L k):=by
 simp[gt,List.getD,Sy h]
def At{α:Type}[Enc α](m:Mem)(p:Addr)(x:α):Prop:=∃vs,Enc.rd m vs x∧Cells m p vs
def C7:Nat:=140737488355328
inductive Sl{α:Type}[Enc α](m:Mem):Value→List α→Prop
 |nil:Sl m (.slice none 0 0) []
 |some (a:Addr) (L:List α) (cap:Nat) (hs:cap≠0→a.spot=none) (hc:L.length≤cap) (hb:L.length≤C7) (hcap:cap≤maxLen)
  (h:∀i x,L[i]?=some x→At m ⟨a.block,a.off+i*Enc.sz α,none⟩ x):Sl m (.slice (some a) L.length cap) L
theorem Cells.mono{m m':Mem}{p:Addr}{vs:List Value}(hm:m.le m')(h:Cells m p vs):Cells m' p vs:=by
 obtain⟨a,cs,T,fz,b,c⟩:=h
 exact⟨a,cs,T,fz,hm _ _ b,c⟩
theorem At.mono{α:Type}[Enc α]{m m':Mem}{p:Addr}{x:α}(h:At m p x)(hm:m.le m'):At m' p x:=by
 obtain⟨vs,a,b⟩:=h
 exact⟨vs,Enc.mono hm a,b.mono hm⟩
theorem Sl.mono{α:Type}[Enc α]{m m':Mem}{v:Value}{L:List α}(h:Sl m v L)(hm:m.le m'):Sl m' v L:=by
 cases h with
 |nil=>exact .nil
 |some a _ cap hs hc hb hcap h=>exact .some a L cap hs hc hb hcap fun i x b=>(h i x b).mono hm
theorem Sl.le{α:Type}[Enc α]{m:Mem}{v:Value}{L:List α}(h:Sl m v L):(L.length:Int)≤140737488355328:=by
 cases h with
 |nil=>simp
 |some a _ cap hs hc hb hcap h=>unfold C7 at hb;omega
theorem Sl.one{α:Type}[Enc α]{m:Mem}{v:Value}{L:List α}(h:Sl m v L):v.oneCell'=true:=by cases h <;> rfl
instance{α:Type}[Enc α]:Enc (List α) where
 sz:=1
 pos:=by decide
 rd m vs L:=∃v,vs=[v]∧Sl m v L
 len h:=by obtain⟨v,rfl,_⟩:=h;rfl
 mono hm h:=by obtain⟨v,c,a⟩:=h;exact⟨v,c,a.mono hm⟩
 one h:=by obtain⟨v,rfl,a⟩:=h;intro u b;simp at b;subst b;exact a.one
def Hl:Value→Addr
 | .slice (some a) _ _=>a
 |_=>⟨0,0,none⟩
theorem C9{a:Addr}(h:a.spot=none)(n:Nat):a.add n=⟨a.block,a.off+n,none⟩:=by
 unfold Addr.add
 split
 ·rename_i h0;subst h0;cases a;simp_all
 ·rfl
theorem Sl.at{α:Type}[Enc α][Inhabited α]{m:Mem}{v:Value}{L:List α}(h:Sl m v L){k:Nat}(hk:k<L.length):
 At m ((Hl v).add (k*Enc.sz α)) (gt L k):=by
 cases h with
 |nil=>simp at hk
 |some a _ cap hs hc hb hcap h=>
  have:=h k _ (S9 hk)
  simp only[Hl]
  rw[C9 (hs (by omega))]
  exact this
theorem Cells.cell{m:Mem}{p:Addr}{vs:List Value}{w:World}(h:Cells m p vs)(hw:m.sub w):∀j v,vs[j]?=some v→w.cell? (p.add j)=some v:=by
 obtain⟨a,cs,T,fz,b,c⟩:=h
 intro j v d
 rw[C9 a]
 unfold World.cell?
 simp only[hw _ _ b]
 exact c j v d
theorem Cells.cell0{m:Mem}{p:Addr}{v:Value}{w:World}(h:Cells m p [v])(hw:m.sub w):w.cell? p=some v:=by
 have:=h.cell hw 0 v rfl
 simpa[Addr.add]using this
def blk(b:Nat)(T:TypeId)(cs:List Value):Ent where
 ids:=[b]
 holds w:=w.heap[b]?=some (.cells cs.toArray T (0,0))
 loc w w' h hw:=by rw[h b (Sp.2 rfl)];exact hw
 bound w hw b' hb:=by
  have:b'=b:=by simpa using hb
  subst this;exact(SA.1 hw).1
def row(v:Value)(e:TypeId)(size n:Nat)(xs:List Value):Ent where
 ids:=v.ownBlock.toList
 holds w:=w.ownsRow 0 e size v n xs
 loc w w' h hw:=by
  refine⟨hw.1,?_⟩
  rcases hw.2 with hn|⟨g,cap,cur,rfl,hb,hgg,rest⟩
  ·exact .inl hn
  ·exact .inr ⟨g,cap,cur,rfl,hb,by rw[h g (by simp[Value.ownBlock])];exact hgg,rest⟩
 bound w hw b hb:=(hw.lt b (by simpa using hb)).2
def A7:List Ent→Nat→Option Ent
 | [],_=>none
 |e::_,0=>some e
 |_::H,k+1=>A7 H k
def H4:List Ent→Nat→Ent→List Ent
 | [],_,_=>[]
 |_::H,0,e=>e::H
 |x::H,k+1,e=>x::H4 H k e
def X3:List Ent→Nat→List Ent
 | [],_=>[]
 |_::H,0=>H
 |x::H,k+1=>x::X3 H k
theorem S8{R:List Ent}:∀{H:List Ent} {k:Nat} {e:Ent},A7 H k=some e→A7 (H++R) k=some e
 | [],_,_,h=>by simp[A7]at h
 |x::H,0,e,h=>h
 |x::H,k+1,e,h=>S8 (H:=H) (k:=k) h
theorem Ly{R:List Ent}:∀{H:List Ent} {k:Nat} {e:Ent},A7 H k=some e→X3 (H++R) k=X3 H k++R
 | [],_,_,h=>by simp[A7]at h
 |x::H,0,e,h=>rfl
 |x::H,k+1,e,h=>by simp only[SM,X3];rw[Ly (H:=H) (k:=k) h]
theorem Z1:∀{H:List Ent} {k:Nat} {e:Ent},A7 H k=some e→∃A C,H=A++e::C∧(∀e',H4 H k e'=A++e'::C)∧X3 H k=A++C
 | [],_,_,h=>by simp[A7]at h
 |x::H,0,e,h=>by simp only[A7]at h;cases h;exact⟨[],H,rfl,fun _=>rfl,rfl⟩
 |x::H,k+1,e,h=>by
  obtain⟨A,C,h1,h2,h3⟩:=Z1 (H:=H) (k:=k) (e:=e) h
  exact⟨x::A,C,by simp[h1],fun e'=>by simp[H4,h2 e'],by simp[X3,h3]⟩
section
variable{P:Program}{B:Base}{m:Mem}{H:List Ent}{σ:B6}{ty:TypeId}
theorem A6{x:Operand}{v:Value}(h:ev σ x=some v):T4 σ x=v:=by simp[T4,h]
theorem OpX.ofRun{op:Op}{V:Value}(hs:notSel op)(hd:Kx.defd σ op)
 (hr:∀w,St B m H w→∀o:Oper,o.op=op→o.type=ty→(execOp (T4 σ) o).run P w= .ok (.value V) w):OpX P B m H σ op ty V:=
 ⟨hs,hd,fun w b o a next Q c d k=>by rw[hr w b o c d];exact k w (Ext.refl w)⟩
theorem L6{op:Op}{x:Operand}{v:Value}(ho:op.operands=#[x])(h:ev σ x=some v):defd σ op:=by
 intro y a;rw[ho]at a;simp at a;subst a;exact⟨v,h⟩
theorem D1{op:Op}{x y:Operand}{v u:Value}(ho:op.operands=#[x,y])(h:ev σ x=some v)(h':ev σ y=some u):defd σ op:=by
 intro z a;rw[ho]at a;simp at a;rcases a with rfl|rfl;exact⟨v,h⟩;exact⟨u,h'⟩
theorem JM{op:Op}{x y z:Operand}{v u t:Value}(ho:op.operands=#[x,y,z])(h:ev σ x=some v)(h':ev σ y=some u)(h'':ev σ z=some t):defd σ op:=by
 intro q a;rw[ho]at a;simp at a;rcases a with rfl|rfl|rfl;exact⟨v,h⟩;exact⟨u,h'⟩;exact⟨t,h''⟩
theorem X.move{x:Operand}{v:Value}(h:ev σ x=some v):OpX P B m H σ (.move x) ty v:=
 .ofRun trivial (L6 rfl h) fun w _ o a _=>by simp only[execOp,a,A6 h];rfl
theorem X.assign{x:Operand}{v:Value}(h:ev σ x=some v):OpX P B m H σ (.assign x) ty v:=
 .ofRun trivial (L6 rfl h) fun w _ o a _=>by simp only[execOp,a,A6 h];rfl
theorem A2l{c a b:Operand}{v u:Value}(hc:ev σ c=some (.bool true))(ha:ev σ a=some v)(hb:ev σ b=some u):OpX P B m H σ (.pick c a b) ty v:=
 .ofRun trivial (JM rfl hc ha hb) fun w _ o d _=>by simp only[execOp,d,A6 hc,A6 ha];rfl
theorem A1Q{c a b:Operand}{v u:Value}(hc:ev σ c=some (.bool false))(ha:ev σ a=some u)(hb:ev σ b=some v):OpX P B m H σ (.pick c a b) ty v:=
 .ofRun trivial (JM rfl hc ha hb) fun w _ o d _=>by simp only[execOp,d,A6 hc,A6 hb];rfl
theorem P7{a:Int}(h1: -9223372036854775808≤a)(h2:a≤9223372036854775807):IntKind.i64.wrap a=a:=IntWalk.i64_in a (by omega)
theorem X.add{x y:Operand}{t t':TypeId}{a b:Int}(hx:ev σ x=some (.int .i64 a))(hy:ev σ y=some (.int .i64 b))
 (h1: -9223372036854775808≤a+b) (h2:a+b≤9223372036854775807):OpX P B m H σ (.binOp .add t x y t') ty (.int .i64 (a+b)):=
 .ofRun trivial (D1 rfl hx hy) fun w _ o c _=>by simp[execOp,c,A6 hx,A6 hy,eqGuard,binOp,Op.intArith,P7 h1 h2]
theorem X.sub{x y:Operand}{t t':TypeId}{a b:Int}(hx:ev σ x=some (.int .i64 a))(hy:ev σ y=some (.int .i64 b))
 (h1: -9223372036854775808≤a-b) (h2:a-b≤9223372036854775807):OpX P B m H σ (.binOp .sub t x y t') ty (.int .i64 (a-b)):=
 .ofRun trivial (D1 rfl hx hy) fun w _ o c _=>by simp[execOp,c,A6 hx,A6 hy,eqGuard,binOp,Op.intArith,P7 h1 h2]
theorem X.mul{x y:Operand}{t t':TypeId}{a b:Int}(hx:ev σ x=some (.int .i64 a))(hy:ev σ y=some (.int .i64 b))
 (h1: -9223372036854775808≤a*b) (h2:a*b≤9223372036854775807):OpX P B m H σ (.binOp .mul t x y t') ty (.int .i64 (a*b)):=
 .ofRun trivial (D1 rfl hx hy) fun w _ o c _=>by simp[execOp,c,A6 hx,A6 hy,eqGuard,binOp,Op.intArith,P7 h1 h2]
theorem X.quo{x y:Operand}{t t':TypeId}{a b:Int}(hx:ev σ x=some (.int .i64 a))(hy:ev σ y=some (.int .i64 b))
 (h0:0≤a) (hb:0<b) (h2:a≤9223372036854775807):OpX P B m H σ (.binOp .quo t x y t') ty (.int .i64 (a/b)):=
 .ofRun trivial (D1 rfl hx hy) fun w _ o d _=>by
  have c:b≠0:=by omega
  have f:0≤a/b:=TZ h0 (by omega)
  have g:a/b≤a:=Int.ediv_le_self _ h0
  simp[execOp,d,A6 hx,A6 hy,eqGuard,binOp,Op.intDiv,c,Int.tdiv_eq_ediv_of_nonneg h0,P7 (show-9223372036854775808≤a/b by omega) (show a/b≤9223372036854775807 by omega)]
theorem B4h{x y:Operand}{t t':TypeId}{a b:Int}(hx:ev σ x=some (.int .i64 a))(hy:ev σ y=some (.int .i64 b))
 (hb:b≠0) (h1: -9223372036854775808≤a.tdiv b) (h2:a.tdiv b≤9223372036854775807):OpX P B m H σ (.binOp .quo t x y t') ty (.int .i64 (a.tdiv b)):=
 .ofRun trivial (D1 rfl hx hy) fun w _ o c _=>by
  simp[execOp,c,A6 hx,A6 hy,eqGuard,binOp,Op.intDiv,hb,P7 h1 h2]
theorem X.rem{x y:Operand}{t t':TypeId}{a b:Int}(hx:ev σ x=some (.int .i64 a))(hy:ev σ y=some (.int .i64 b))
 (h0:0≤a) (hb:b≠0):OpX P B m H σ (.binOp .rem t x y t') ty (.int .i64 (a%b)):=
 .ofRun trivial (D1 rfl hx hy) fun w _ o c _=>by
  simp[execOp,c,A6 hx,A6 hy,eqGuard,binOp,Op.intDiv,hb,Int.tmod_eq_emod_of_nonneg h0]
theorem X.neg{x:Operand}{t:TypeId}{a:Int}(hx:ev σ x=some (.int .i64 a))(h1: -9223372036854775808≤0-a)(h2:0-a≤9223372036854775807):
 OpX P B m H σ (.unOp .neg t x) ty (.int .i64 (-a)):=
 .ofRun trivial (L6 rfl hx) fun w _ o b _=>by
  have:=P7 h1 h2
  simp[execOp,b,A6 hx,Op.unary,Op.intArith]at this⊢
  exact this
theorem X.lss{x y:Operand}{t t':TypeId}{k:IntKind}{a b:Int}(hx:ev σ x=some (.int k a))(hy:ev σ y=some (.int k b)):
 OpX P B m H σ (.binOp .lss t x y t') ty (.bool (decide (a<b))):=
 .ofRun trivial (D1 rfl hx hy) fun w _ o c _=>by simp[execOp,c,A6 hx,A6 hy,eqGuard,binOp,Op.intCmp]
theorem X.leq{x y:Operand}{t t':TypeId}{k:IntKind}{a b:Int}(hx:ev σ x=some (.int k a))(hy:ev σ y=some (.int k b)):
 OpX P B m H σ (.binOp .leq t x y t') ty (.bool (decide (a≤b))):=
 .ofRun trivial (D1 rfl hx hy) fun w _ o c _=>by simp[execOp,c,A6 hx,A6 hy,eqGuard,binOp,Op.intCmp]
theorem X.gtr{x y:Operand}{t t':TypeId}{k:IntKind}{a b:Int}(hx:ev σ x=some (.int k a))(hy:ev σ y=some (.int k b)):
 OpX P B m H σ (.binOp .gtr t x y t') ty (.bool (decide (b<a))):=
 .ofRun trivial (D1 rfl hx hy) fun w _ o c _=>by simp[execOp,c,A6 hx,A6 hy,eqGuard,binOp,Op.intCmp]
theorem X.geq{x y:Operand}{t t':TypeId}{k:IntKind}{a b:Int}(hx:ev σ x=some (.int k a))(hy:ev σ y=some (.int k b)):
 OpX P B m H σ (.binOp .geq t x y t') ty (.bool (decide (b≤a))):=
 .ofRun trivial (D1 rfl hx hy) fun w _ o c _=>by simp[execOp,c,A6 hx,A6 hy,eqGuard,binOp,Op.intCmp]
theorem X.eql{x y:Operand}{t t':TypeId}{k:IntKind}{a b:Int}(hx:ev σ x=some (.int k a))(hy:ev σ y=some (.int k b)):
 OpX P B m H σ (.binOp .eql t x y t') ty (.bool (decide (a=b))):=
 .ofRun trivial (D1 rfl hx hy) fun w _ o c _=>by
  simp[execOp,c,A6 hx,A6 hy,eqGuard,binOp,Op.intCmp]
  rfl
theorem X.neq{x y:Operand}{t t':TypeId}{k:IntKind}{a b:Int}(hx:ev σ x=some (.int k a))(hy:ev σ y=some (.int k b)):
 OpX P B m H σ (.binOp .neq t x y t') ty (.bool (decide (¬a=b))):=
 .ofRun trivial (D1 rfl hx hy) fun w _ o c _=>by
  simp[execOp,c,A6 hx,A6 hy,eqGuard,binOp,Op.intCmp,bne]
  rfl
theorem Cu{x:Operand}{t:TypeId}{p:Prop}[Decidable p](hx:ev σ x=some (.bool (decide p))):OpX P B m H σ (.unOp .not t x) ty (.bool (decide (¬p))):=
 .ofRun trivial (L6 rfl hx) fun w _ o a _=>by simp[execOp,a,A6 hx,Op.unary]
theorem X.not{x:Operand}{t:TypeId}{b:Bool}(hx:ev σ x=some (.bool b)):OpX P B m H σ (.unOp .not t x) ty (.bool (!b)):=
 .ofRun trivial (L6 rfl hx) fun w _ o a _=>by simp[execOp,a,A6 hx,Op.unary]
theorem X.extract{x:Operand}{i:Nat}{vs:Array Value}{v:Value}(hx:ev σ x=some (.tuple vs))(hi:vs[i]?=some v):OpX P B m H σ (.extract x i) ty v:=
 .ofRun trivial (L6 rfl hx) fun w _ o a _=>by simp[execOp,a,A6 hx,Instr.extract,hi]
theorem X.nilCheck{x:Operand}{p:Addr}(hx:ev σ x=some (.pointer (some p))):OpX P B m H σ (.nilCheck x) ty (.pointer (some p)):=
 .ofRun trivial (L6 rfl hx) fun w _ o a _=>by simp[execOp,a,A6 hx]
theorem X.convert{x:Operand}{s d:TypeId}{a:Int}{k:IntKind}(hu:∀w,(underlying s).run P w= .ok (.int k) w)(hv:∀w,(underlying d).run P w= .ok (.int .i64) w)
 (hx:ev σ x=some (.int k a)) (h1: -9223372036854775808≤a) (h2:a≤9223372036854775807):OpX P B m H σ (.convert s d x) ty (.int .i64 a):=
 .ofRun trivial (L6 rfl hx) fun w _ o b _=>by simp[execOp,b,A6 hx,Go.convert,hu,hv,Conv.intToInt,P7 h1 h2]
theorem X.makeFunc{f:FuncId}{cap:List Operand}{vs:List Value}(hd:∀x∈cap,∃v,ev σ x=some v)(hc:cap.map (T4 σ)=vs):
 OpX P B m H σ (.makeFunc (.func f) #[] cap.toArray) ty (.func (.func f) #[] vs.toArray):=
 .ofRun trivial (by intro x a;simp[Op.operands]at a;exact hd x a) fun w _ o b _=>by simp[execOp,b,Instr.makeFunc,hc]
theorem X.field{x:Operand}{s:TypeId}{i n:Nat}{fs:Array Field}{f:Field}{p:Addr}(hu:∀w,(underlying s).run P w= .ok (.struct fs) w)(hf:fs[i]?=some f)
 (hs:∀w,(sizeOf f.type).run P w= .ok (n+1) w) (hx:ev σ x=some (.pointer (some p))):OpX P B m H σ (.fieldAddr s x i) ty (.pointer (some (p.add f.offset))):=
 .ofRun trivial (L6 rfl hx) fun w _ o a _=>by simp[execOp,a,A6 hx,Instr.fieldAt,hu,hf,Instr.sureAddr,fieldPlace,hs]
def E(P:Program)(B:Base)(m:Mem)(H:List Ent)(σ:B6)(op:Op)(ty:TypeId){α:Type}(V:α→Value)(F:α→Prop):Prop:=∃x,OpX P B m H σ op ty (V x)∧F x
theorem BV{α:Type}[Enc α][Inhabited α]{x y:Operand}{t e:TypeId}{v:Value}{L:List α}{n:Int}(hu:∀w,(underlying t).run P w= .ok (.slice e) w)
 (hz:∀w,(sizeOf e).run P w= .ok (Enc.sz α) w) (hx:ev σ x=some v) (hy:ev σ y=some (.int .i64 n)) (hs:Sl m v L) (h0:0≤n) (h1:n<L.length):
 E P B m H σ (.indexAddr t x y) ty (fun p=>.pointer (some p)) (fun p=>At m p (gt L n.toNat)):=
 ⟨(Hl v).add (n.toNat*Enc.sz α),.ofRun trivial (D1 rfl hx hy) fun w _ o b _=>by
  cases hs with
  |nil=>simp at h1;omega
  |some a _ cap hs hc hb hcap h=>simp[execOp,b,A6 hx,A6 hy,Instr.indexAt,asIntOf,hu,hz,h0,h1,Hl],hs.at (by omega)⟩
theorem Mv{α:Type}[Enc α][Inhabited α]{x y:Operand}{t e:TypeId}{v:Value}{L:List α}(n:Nat)(hu:∀w,(underlying t).run P w= .ok (.slice e) w)
 (hz:∀w,(sizeOf e).run P w= .ok (Enc.sz α) w) (hx:ev σ x=some v) (hy:ev σ y=some (.int .i64 (n:Int))) (hs:Sl m v L) (h1:(n:Int)<L.length):
 E P B m H σ (.indexAddr t x y) ty (fun p=>.pointer (some p)) (fun p=>At m p (gt L n)):=
 BV hu hz hx hy hs (by omega) h1
theorem T9{α:Type}[Enc α][Inhabited α]{x y:Operand}{t e:TypeId}{v:Value}{L:List α}{i:Int}(n:Nat)(hu:∀w,(underlying t).run P w= .ok (.slice e) w)
 (hz:∀w,(sizeOf e).run P w= .ok (Enc.sz α) w) (hx:ev σ x=some v) (hy:ev σ y=some (.int .i64 i)) (hs:Sl m v L) (hn:i=(n:Int)) (h1:i<L.length):
 E P B m H σ (.indexAddr t x y) ty (fun p=>.pointer (some p)) (fun p=>At m p (gt L n)):=by
 subst hn;exact Mv n hu hz hx hy hs h1
theorem Ew{x:Operand}{t:TypeId}{p:Addr}{n:Int}(ha:∀w,(isAgg t).run P w= .ok false w)(hx:ev σ x=some (.pointer (some p)))(hp:At m p n):
 OpX P B m H σ (.load t x) ty (.int .i64 n):=
 .ofRun trivial (L6 rfl hx) fun w b o c _=>by
  obtain⟨vs,d,f⟩:=hp
  have a:vs=[.int .i64 n]:=d
  subst a
  simp[execOp,c,A6 hx,Instr.loadAt,Instr.sureAddr,loadVar,ha,f.cell0 b.sub]
theorem RI{α:Type}[Enc α]{x:Operand}{t:TypeId}{p:Addr}{L:List α}(ha:∀w,(isAgg t).run P w= .ok false w)(hx:ev σ x=some (.pointer (some p)))(hp:At m p L):
 E P B m H σ (.load t x) ty (fun v=>v) (fun v=>Sl m v L):=by
 obtain⟨vs,⟨v,c,d⟩,f⟩:=hp
 subst c
 exact⟨v,.ofRun trivial (L6 rfl hx) fun w a o b _=>by
  simp[execOp,b,A6 hx,Instr.loadAt,Instr.sureAddr,loadVar,ha,f.cell0 a.sub],d⟩
theorem De{α:Type}[Enc α]{x:Operand}{t:TypeId}{p:Addr}{a:α}(ha:∀w,(isAgg t).run P w= .ok true w)(hz:∀w,(sizeOf t).run P w= .ok (Enc.sz α) w)
 (hx:ev σ x=some (.pointer (some p))) (hp:At m p a):
 E P B m H σ (.load t x) ty (fun vs:List Value=>.agg vs.toArray) (fun vs=>Enc.rd m vs a):=by
 obtain⟨vs,c,g⟩:=hp
 exact⟨vs,.ofRun trivial (L6 rfl hx) fun w d o f _=>by
  have b:=run_loadCells_list (P:=P) w p vs (g.cell d.sub)
  rw[Enc.len c]at b
  simp[execOp,f,A6 hx,Instr.loadAt,Instr.sureAddr,loadVar,ha,hz,b],c⟩
theorem Eb{w:World}(hw:St B m H w){k b:Nat}{T:TypeId}{cs:List Value}(hH:A7 H k=some (blk b T cs))(off:Nat):w.cell? ⟨b,off,none⟩=cs[off]?:=by
 obtain⟨A,C,a,_,_⟩:=Z1 hH
 have:(blk b T cs).holds w:=hw.own _ (by rw[a];simp)
 simp only[blk]at this
 simp[World.cell?,this]
theorem BZ{x:Operand}{t:TypeId}{k b off:Nat}{T:TypeId}{cs:List Value}{v:Value}(ha:∀w,(isAgg t).run P w= .ok false w)
 (hx:ev σ x=some (.pointer (some ⟨b,off,none⟩))) (hH:A7 H k=some (blk b T cs)) (hc:cs[off]?=some v):OpX P B m H σ (.load t x) ty v:=
 .ofRun trivial (L6 rfl hx) fun w a o c _=>by
  simp[execOp,c,A6 hx,Instr.loadAt,Instr.sureAddr,loadVar,ha,Eb a hH off,hc]
theorem Ma{x:Operand}{t:TypeId}{k b n:Nat}{T:TypeId}{cs:List Value}(ha:∀w,(isAgg t).run P w= .ok true w)
 (hz:∀w,(sizeOf t).run P w= .ok n w) (hx:ev σ x=some (.pointer (some ⟨b,0,none⟩))) (hH:A7 H k=some (blk b T cs)) (hn:cs.length=n):OpX P B m H σ (.load t x) ty (.agg cs.toArray):=
 .ofRun trivial (L6 rfl hx) fun w a o c _=>by
  subst hn
  have f:=run_loadCells_list (P:=P) w ⟨b,0,none⟩ cs (fun j v d=>by
   rw[C9 rfl,Eb a hH];simpa using d)
  simp[execOp,c,A6 hx,Instr.loadAt,Instr.sureAddr,loadVar,ha,hz,f]
end
structure SlT(P:Program)(t e:TypeId)(sz bytes:Nat)(z:Value):Prop where
 ht:P.underlying t=some (.slice e)
 hi:∃i,P.info? e=some i∧i.zero=some z∧i.size=sz∧i.bytes=bytes
 hz:z.cells.size=sz
 pos:0<sz
theorem SlT.u{P:Program}{t e:TypeId}{sz bytes:Nat}{z:Value}(h:SlT P t e sz bytes z)(w:World):(underlying t).run P w= .ok (.slice e) w:=run_underlying h.ht w
theorem SlT.s{P:Program}{t e:TypeId}{sz bytes:Nat}{z:Value}(h:SlT P t e sz bytes z)(w:World):(sizeOf e).run P w= .ok sz w:=by
 obtain⟨i,a,_,b,_⟩:=h.hi
 simp[sizeOf,typeInfo,a,b]
theorem SlT.zr{P:Program}{t e:TypeId}{sz bytes:Nat}{z:Value}(h:SlT P t e sz bytes z)(w:World):(zeroValue e).run P w= .ok z w:=by
 obtain⟨i,a,b,_,_⟩:=h.hi
 simp[zeroValue,typeInfo,a,b]
theorem St.change{B:Base}{m:Mem}{H:List Ent}{w w':World}{k:Nat}{e e':Ent}(h:St B m H w)(hH:A7 H k=some e)
 (ho:w'.os=w.os) (ht:w'.tape=w.tape) (hp:w'.output=w.output) (hs:w.heap.size≤w'.heap.size)
 (hb:∀c,c<w.heap.size→c ∉ e.ids→w'.heap[c]?=w.heap[c]?) (he:e'.holds w') (hi:∀b∈e'.ids,b∈e.ids∨w.heap.size≤b) (hn:e'.ids.Nodup):
 St B m (H4 H k e') w':=by
 obtain⟨A,C,t,u,_⟩:=Z1 hH
 rw[u]
 have d:∀x:Ent,([x]++(A++C)).Perm (A++x::C):=fun x=>by simpa using So.symm
 have g:St B m ([e]++(A++C)) w:=by rw[t]at h;exact h.perm (d e)
 have n:m.sub w':=fun b o f=>by
  rw[hb b (h.sub.lt f) (fun r=>by
   have:=g.avoid b (by simp[B8,r]);rw[this]at f;cases f)]
  exact h.sub b o f
 have s:B8 [e]=e.ids:=by simp[B8]
 have l:B8 [e']=e'.ids:=by simp[B8]
 have p:St ⟨w,B8 [e],m⟩ m [e'] w':=by
  refine⟨ho,ht,hp,hs,fun b a q=>hb b a (by rwa [s]at q),n,Mem.le_refl _,fun _ _=>rfl,?_,?_,?_,?_⟩
  ·intro x q;simp at q;subst q;exact he
  ·intro b a;rw[l]at a;rw[s];exact hi b a
  ·intro b a
   rw[l]at a
   rcases hi b a with h3|h3
   ·exact g.avoid b (by simp[B8,h3])
   ·cases hm:m b with
    |none=>rfl
    |some o=>exact absurd (h.sub.lt hm) (Tn.2 h3)
  ·rw[l];exact hn
 exact(g.handed p).perm (d e').symm
def flat{α:Type}[Flat α](L:List α):List Value:=L.flatMap Flat.enc
theorem F8{α:Type}[Flat α](L:List α):(flat L).length=L.length*Flat.n α:=by
 induction L with
 |nil=>simp[flat]
 |cons x L ih=>simp only[flat,Ti,F',N',Flat.len]at ih ⊢; rw[ih,Sb];omega
theorem S2{α:Type}[Flat α](L M:List α):flat (L++M)=flat L++flat M:=by simp[flat]
theorem FC{α:Type}[Flat α]:∀(L:List α) (i:Nat) (x:α),L[i]?=some x→∀j v,(Flat.enc x)[j]?=some v→(flat L)[i*Flat.n α+j]?=some v
 | [],i,x,h,_,_,_=>by simp at h
 |y::L,0,x,h,j,v,hv=>by
  simp at h;subst h
  have:j<(Flat.enc y).length:=(Sq.1 hv).1
  simp only[flat,Ti,SU,SC]
  rw[SK this];exact hv
 |y::L,i+1,x,h,j,v,hv=>by
  have:=FC L i x (by simpa using h) j v hv
  simp only[flat,Ti]
  rw[SL (by rw[Flat.len,Sb];omega),Flat.len]
  rw[←this,flat]
  congr 1
  rw[Sb];omega
def A5{α:Type}[Flat α](v:Value)(e:TypeId)(L:List α):Ent:=row v e (Flat.n α) L.length (flat L)
def rp(v:Value)(off:Nat):Addr:=⟨v.ownBlock.getD 0,off,none⟩
theorem EB{w:World}{v:Value}{e:TypeId}{sz n:Nat}{xs:List Value}(h:(row v e sz n xs).holds w)(hn:0<n):
 ∃g cap cur,v= .slice (some ⟨g,0,none⟩) n cap∧w.heap[g]?=some (.cells cur e (0,0))∧n≤cap∧cap≤maxLen∧cur.size=cap*sz∧cur.toList.take (n*sz)=xs:=by
 rcases h.2 with⟨_,h0⟩|⟨g,cap,cur,h1,_,h2,h3,h4,h5,h6⟩
 ·omega
 ·exact⟨g,cap,cur,h1,h2,h3,h4,h5,h6⟩
theorem FK{w:World}{v:Value}{e:TypeId}{sz n:Nat}{xs:List Value}(h:(row v e sz n xs).holds w){off:Nat}{u:Value}(hx:xs[off]?=some u):
 w.cell? (rp v off)=some u∧w.frozen? (rp v off)=false:=by
 have a:off<xs.length:=(Sq.1 hx).1
 have c:0<n:=by
  rcases TM n with h0|h0
  ·rw[h.1,h0]at a;simp at a
  ·exact h0
 obtain⟨g,cap,cur,rfl,b,f,k,l,d⟩:=EB h c
 have:cur.toList[off]?=some u:=by
  rw[←d,SI]at hx
  split at hx
  ·exact hx
  ·cases hx
 refine⟨?_,?_⟩
 ·simp only[rp,Value.ownBlock,Uq,World.cell?,b]
  simpa using this
 ·simp[rp,Value.ownBlock,World.frozen?,b]
section
variable{P:Program}{B:Base}{m:Mem}{H:List Ent}{σ:B6}{ty:TypeId}
theorem C3{w:World}(hw:St B m H w){k:Nat}{e:Ent}(hH:A7 H k=some e):e.holds w:=by
 obtain⟨A,C,a,_,_⟩:=Z1 hH
 exact hw.own _ (by rw[a];simp)
theorem P1{x y:Operand}{t e e':TypeId}{v:Value}{sz n k:Nat}{xs:List Value}{i:Int}(hu:∀w,(underlying t).run P w= .ok (.slice e) w)
 (hz:∀w,(sizeOf e).run P w= .ok sz w) (hx:ev σ x=some v) (hy:ev σ y=some (.int .i64 i)) (hH:A7 H k=some (row v e' sz n xs)) (h0:0≤i) (h1:i<n):
 OpX P B m H σ (.indexAddr t x y) ty (.pointer (some (rp v (i.toNat*sz)))):=
 .ofRun trivial (D1 rfl hx hy) fun w a o b _=>by
  obtain⟨g,cap,cur,rfl,_⟩:=EB (C3 a hH) (by omega)
  simp only[execOp,b,A6 hx,A6 hy,Instr.indexAt,asIntOf]
  simp[hu,hz,h0,h1,rp,Value.ownBlock,C9]
theorem K0{x y:Operand}{t e e':TypeId}{v:Value}{n k:Nat}{xs:List Value}{i:Int}(hu:∀w,(underlying t).run P w= .ok (.slice e) w)
 (hz:∀w,(sizeOf e).run P w= .ok 1 w) (hx:ev σ x=some v) (hy:ev σ y=some (.int .i64 i)) (hH:A7 H k=some (row v e' 1 n xs)) (h0:0≤i) (h1:i<n):
 OpX P B m H σ (.indexAddr t x y) ty (.pointer (some (rp v i.toNat))):=by
 have:=P1 (P:=P) (B:=B) (m:=m) (ty:=ty) hu hz hx hy hH h0 h1
 rwa [SD]at this
theorem M3{x:Operand}{t e:TypeId}{k off sz n:Nat}{v u:Value}{xs:List Value}(ha:∀w,(isAgg t).run P w= .ok false w)
 (hx:ev σ x=some (.pointer (some (rp v off)))) (hH:A7 H k=some (row v e sz n xs)) (hu:xs[off]?=some u):OpX P B m H σ (.load t x) ty u:=
 .ofRun trivial (L6 rfl hx) fun w a o b _=>by
  simp[execOp,b,A6 hx,Instr.loadAt,Instr.sureAddr,loadVar,ha,(FK (C3 a hH) hu).1]
theorem HB(L:List Int):flat L=L.map (Value.int .i64):=by
 induction L with
 |nil=>rfl
 |cons x L ih=>simp only[flat,Ti,List.map_cons]at ih ⊢; rw[ih];rfl
theorem A5M{x y:Operand}{t e e':TypeId}{v:Value}{k:Nat}{L:List Int}{i:Int}(hu:∀w,(underlying t).run P w= .ok (.slice e) w)
 (hz:∀w,(sizeOf e).run P w= .ok 1 w) (hx:ev σ x=some v) (hy:ev σ y=some (.int .i64 i)) (hH:A7 H k=some (A5 v e' L)) (h0:0≤i) (h1:i<L.length):
 OpX P B m H σ (.indexAddr t x y) ty (.pointer (some (rp v i.toNat))):=K0 hu hz hx hy hH h0 h1
theorem GV{x:Operand}{t e:TypeId}{k i:Nat}{v:Value}{L:List Int}(ha:∀w,(isAgg t).run P w= .ok false w)
 (hx:ev σ x=some (.pointer (some (rp v i)))) (hH:A7 H k=some (A5 v e L)) (hi:i<L.length):OpX P B m H σ (.load t x) ty (.int .i64 (gt L i)):=
 M3 ha hx hH (by rw[HB,List.getElem?_map,S9 hi];rfl)
theorem X.len{α:Type}[Enc α]{x:Operand}{t e:TypeId}{v:Value}{L:List α}(hu:∀w,(underlying t).run P w= .ok (.slice e) w)(hx:ev σ x=some v)(hs:Sl m v L):
 OpX P B m H σ (.call (Call.mk (.builtin .len) #[x] #[t])) ty (.int .i64 L.length):=
 .ofRun trivial (L6 (by simp[Op.operands,Call.operands]) hx) fun w _ o b _=>by
  cases hs with
  |nil=>simp[execOp,b,resolve,invoke,builtin,Builtin.len_,A6 hx,hu,goInt]
  |some a _ cap hs hc hb hcap h=>simp[execOp,b,resolve,invoke,builtin,Builtin.len_,A6 hx,hu,goInt]
theorem U5{x:Operand}{t e e':TypeId}{v:Value}{k sz n:Nat}{xs:List Value}(hu:∀w,(underlying t).run P w= .ok (.slice e) w)(hx:ev σ x=some v)(hH:A7 H k=some (row v e' sz n xs)):
 OpX P B m H σ (.call (Call.mk (.builtin .len) #[x] #[t])) ty (.int .i64 n):=
 .ofRun trivial (L6 (by simp[Op.operands,Call.operands]) hx) fun w b o a _=>by
  have c:=C3 b hH
  rcases c.2 with⟨rfl,h0⟩|⟨g,cap,cur,rfl,_⟩
  ·subst h0;simp[execOp,a,resolve,invoke,builtin,Builtin.len_,A6 hx,hu,goInt]
  ·simp[execOp,a,resolve,invoke,builtin,Builtin.len_,A6 hx,hu,goInt]
theorem V8{α:Type}[Flat α]{x:Operand}{t e e':TypeId}{v:Value}{k:Nat}{L:List α}(hu:∀w,(underlying t).run P w= .ok (.slice e) w)(hx:ev σ x=some v)(hH:A7 H k=some (A5 v e' L)):
 OpX P B m H σ (.call (Call.mk (.builtin .len) #[x] #[t])) ty (.int .i64 L.length):=U5 hu hx hH
theorem Hw{x y:Operand}{ts:Array TypeId}{a b:Int}(hx:ev σ x=some (.int .i64 a))(hy:ev σ y=some (.int .i64 b)):
 OpX P B m H σ (.call (Call.mk (.builtin .min) #[x,y] ts)) ty (.int .i64 (min a b)):=
 .ofRun trivial (D1 (by simp[Op.operands,Call.operands]) hx hy) fun w _ o c _=>by
  simp[execOp,c,resolve,invoke,builtin,Builtin.min_,Builtin.min2,A6 hx,A6 hy]
  rw[Int.min_def];(repeat' split) <;> omega
theorem EG{x y:Operand}{ts:Array TypeId}{a b:Int}(hx:ev σ x=some (.int .i64 a))(hy:ev σ y=some (.int .i64 b)):
 OpX P B m H σ (.call (Call.mk (.builtin .max) #[x,y] ts)) ty (.int .i64 (max a b)):=
 .ofRun trivial (D1 (by simp[Op.operands,Call.operands]) hx hy) fun w _ o c _=>by
  simp[execOp,c,resolve,invoke,builtin,Builtin.max_,Builtin.max2,A6 hx,A6 hy]
  rw[Int.max_def];(repeat' split) <;> omega
def AS(σ:B6):List Operand→Option (List Value)
 | []=>some []
 |x::l=>match ev σ x,AS σ l with
  |some v,some vs=>some (v::vs)
  |_,_=>none
theorem Ci:∀{l:List Operand} {vs:List Value},AS σ l=some vs→l.map (T4 σ)=vs∧∀x∈l,∃v,ev σ x=some v
 | [],vs,h=>by simp only[AS]at h;cases h;exact⟨rfl,by simp⟩
 |x::l,vs,h=>by
  simp only[AS]at h
  cases h1:ev σ x with
  |none=>simp[h1]at h
  |some v=>
   cases h2:AS σ l with
   |none=>simp[h1,h2]at h
   |some us=>
    simp only[h1,h2]at h
    cases h
    obtain⟨h3,h4⟩:=Ci h2
    refine⟨by simp[A6 h1,h3],?_⟩
    intro y a
    cases a with
    |head=>exact⟨v,h1⟩
    |tail _ a=>exact h4 y a
def Enters(P:Program)(f:FuncId):Prop:=∀(args:Array Value) (w:World),(callFunc f args).run P w= .ok (.enter f args) w
theorem CV{f:FuncId}{l:List Operand}{ts:Array TypeId}{vs:List Value}(hf:Enters P f)(hl:AS σ l=some vs)(w:World)(o:Oper)
 (ho:o.op= .call (Call.mk (.value (.func f)) l.toArray ts)):(execOp (T4 σ) o).run P w= .ok (.enter f vs.toArray) w:=by
 have a:=(Ci hl).1
 have b:=hf vs.toArray w
 simp[execOp,ho,resolve,Deferred.ofValue,T4,ev,invoke]
 rw[show l.map (fun x=>T4 σ x)=vs from a]
 simpa[T4]using b
theorem PO{f:FuncId}{x:Operand}{cap:Array Value}{l:List Operand}{ts:Array TypeId}{vs:List Value}(hf:Enters P f)(hx:ev σ x=some (.func (.func f) #[] cap))(hl:AS σ l=some vs)(w:World)(o:Oper)
 (ho:o.op= .call (Call.mk (.value x) l.toArray ts)):(execOp (T4 σ) o).run P w= .ok (.enter f (vs.toArray++cap)) w:=by
 have a:=(Ci hl).1
 have b:=hf (vs.toArray++cap) w
 simp[execOp,ho,resolve,Deferred.ofValue,A6 hx,invoke]
 rw[show l.map (fun x=>T4 σ x)=vs from a]
 simpa using b
theorem BB{x:Operand}{v:Value}{l:List Operand}{ts:Array TypeId}{vs:List Value}(hx:ev σ x=some v)(hl:AS σ l=some vs):Kx.defd σ (.call (Call.mk (.value x) l.toArray ts)):=by
 intro y a
 simp[Op.operands,Call.operands]at a
 rcases a with rfl|a
 ·exact⟨v,hx⟩
 ·exact(Ci hl).2 y a
theorem X.call{f:FuncId}{l:List Operand}{ts:Array TypeId}{vs:List Value}{v:Value}(hf:Enters P f)(hl:AS σ l=some vs)(hc:Exact P f vs.toArray m v):
 OpX P B m H σ (.call (Call.mk (.value (.func f)) l.toArray ts)) ty v:=
 ⟨trivial,BB rfl hl,fun w c o a next Q d n k=>by
  rw[CV hf hl w o d]
  refine(hc w c.sub).mono fun e w' b=>?_
  have g:=Ret.ext b rfl
  obtain⟨u,m',H',rfl,p,rfl⟩:=b
  exact k w' g⟩
theorem E1{f:FuncId}{x:Operand}{cap:Array Value}{l:List Operand}{ts:Array TypeId}{vs:List Value}{v:Value}(hf:Enters P f)(hx:ev σ x=some (.func (.func f) #[] cap))(hl:AS σ l=some vs)
 (hc:Exact P f (vs.toArray++cap) m v):OpX P B m H σ (.call (Call.mk (.value x) l.toArray ts)) ty v:=
 ⟨trivial,BB hx hl,fun w c o a next Q d g k=>by
  rw[PO hf hx hl w o d]
  refine(hc w c.sub).mono fun e w' b=>?_
  have hx:=Ret.ext b rfl
  obtain⟨u,m',H',rfl,n,rfl⟩:=b
  exact k w' hx⟩
theorem T.call{f:FuncId}{l:List Operand}{ts:Array TypeId}{vs:List Value}{R:Mem→Value→Prop}(hf:Enters P f)(hl:AS σ l=some vs)(hc:Pure P f vs.toArray m R):
 OpTo P B m H σ (.call (Call.mk (.value (.func f)) l.toArray ts)) ty (fun v m' H'=>H'=H∧m.le m'∧R m' v):=
 ⟨trivial,BB rfl hl,fun M B w b o a next Q d p k=>Q6 M<| by
  rw[CV hf hl w o d]
  refine(hc w b.sub).mono fun e w' g=>?_
  obtain⟨u,m',H',rfl,c,n⟩:=g
  exact k u m' H w' ⟨rfl,c.le,n⟩ (b.called c)⟩
theorem Ke{f:FuncId}{x:Operand}{cap:Array Value}{l:List Operand}{ts:Array TypeId}{vs:List Value}{R:Mem→Value→Prop}(hf:Enters P f)(hx:ev σ x=some (.func (.func f) #[] cap))(hl:AS σ l=some vs)
 (hc:Pure P f (vs.toArray++cap) m R):OpTo P B m H σ (.call (Call.mk (.value x) l.toArray ts)) ty (fun v m' H'=>H'=H∧m.le m'∧R m' v):=
 ⟨trivial,BB hx hl,fun M B w b o a next Q d p k=>Q6 M<| by
  rw[PO hf hx hl w o d]
  refine(hc w b.sub).mono fun e w' g=>?_
  obtain⟨u,m',H',rfl,c,n⟩:=g
  exact k u m' H w' ⟨rfl,c.le,n⟩ (b.called c)⟩
theorem OpTo.ofRun{op:Op}{T:Value→Mem→List Ent→Prop}(hs:notSel op)(hd:Kx.defd σ op)
 (hr:∀{B:Base} (w:World),St B m H w→∀o:Oper,o.op=op→o.type=ty→∃v w',((execOp (T4 σ) o).run P w= .ok (.value v) w'∨((execOp (T4 σ) o).run P w= .ok .skip w'∧v=undef))∧∃m' H',T v m' H'∧St B m' H' w'):
 OpTo P B m H σ op ty T:=
 ⟨hs,hd,fun M B w f o a next Q g l k=>Q6 M<| by
  obtain⟨v,w',b,m',H',d,c⟩:=hr w f o g l
  rcases b with h|⟨h,rfl⟩
  ·rw[h];exact k v m' H' w' d c
  ·rw[h];exact k undef m' H' w' d c⟩
theorem MH(t:TypeId)(v:Value)(w:World):(newVar t v).run P w= .ok ⟨w.heap.size,0,none⟩ (w.alloc (.cells v.cells t)):=by
 simp[newVar,newRow]
theorem Cv{x:Operand}{t:TypeId}{v:Value}{cs:List Value}(hx:ev σ x=some v)(hc:v.cells=cs.toArray):
 OpTo P B m H σ (.box t x) ty (fun u m' H'=>m'=m∧∃b,u= .pointer (some ⟨b,0,none⟩)∧H'=blk b t cs::H):=
 .ofRun trivial (L6 rfl hx) fun w a o c _=>by
  refine⟨.pointer (some ⟨w.heap.size,0,none⟩),w.alloc (.cells cs.toArray t),.inl (by simp[execOp,c,A6 hx,Instr.box,MH,hc]),m,_,⟨rfl,_,rfl,rfl⟩,
   a.push (Ext.alloc w _) (blk w.heap.size t cs) (by show(w.heap.push _)[_]?=_;simp) (by simp[blk]) (by simp[blk])⟩
theorem T.alloc{t:TypeId}{z:Value}{cs:List Value}(hz:∀w,(zeroValue t).run P w= .ok z w)(hc:z.cells=cs.toArray):
 OpTo P B m H σ (.alloc t) ty (fun u m' H'=>m'=m∧∃b,u= .pointer (some ⟨b,0,none⟩)∧H'=blk b t cs::H):=
 .ofRun trivial (by intro x d;simp[Op.operands]at d) fun w a o c _=>by
  refine⟨.pointer (some ⟨w.heap.size,0,none⟩),w.alloc (.cells cs.toArray t),.inl (by simp[execOp,c,Instr.alloc,hz,MH,hc]),m,_,⟨rfl,_,rfl,rfl⟩,
   a.push (Ext.alloc w _) (blk w.heap.size t cs) (by show(w.heap.push _)[_]?=_;simp) (by simp[blk]) (by simp[blk])⟩
theorem setRow_other(w:World)(g:Nat)(cs:Array Value)(c:Nat)(h:c≠g):(w.setRow g cs).heap[c]?=w.heap[c]?:=by
 simp[World.setRow,Array.getElem?_modify,Ne.symm h]
theorem setRow_self'(w:World)(g:Nat)(cs cur:Array Value)(T:TypeId)(fz:Nat×Nat)(h:w.heap[g]?=some (.cells cur T fz)):(w.setRow g cs).heap[g]?=some (.cells cs T fz):=by
 simp only[World.setRow,Array.getElem?_modify,if_true,h,Ty]
theorem IM{w:World}(hw:St B m H w){k b off:Nat}{T:TypeId}{cs vs:List Value}(hH:A7 H k=some (blk b T cs))(hl:off+vs.length≤cs.length)(h1:∀v∈vs,v.oneCell'=true):
 ∃w',(storeCells ⟨b,off,none⟩ vs).run P w= .ok () w'∧St B m (H4 H k (blk b T (cs.take off++vs++cs.drop (off+vs.length)))) w':=by
 have f:w.heap[b]?=some (.cells cs.toArray T (0,0)):=C3 hw hH
 have a:=run_storeCells_at P b off T vs 0 cs.toArray w f (by simpa using hl) h1
 simp only[TB]at a
 refine⟨_,a,hw.change hH rfl rfl rfl (by simp[World.setRow]) ?_ ?_ ?_ (by simp[blk])⟩
 ·intro c _ d
  exact setRow_other w b _ c (by simpa[blk]using d)
 ·simp only[blk]
  exact setRow_self' w b _ _ T _ f
 ·intro c d;exact .inl (by simpa[blk]using d)
theorem C1{x y:Operand}{t:TypeId}{k b off:Nat}{T:TypeId}{cs:List Value}{v:Value}(hz:∀w,(sizeOf t).run P w= .ok 1 w)
 (hx:ev σ x=some (.pointer (some ⟨b,off,none⟩))) (hy:ev σ y=some v) (hH:A7 H k=some (blk b T cs)) (hv:v.oneCell'=true) (ho:off<cs.length):
 OpTo P B m H σ (.store t x y) ty (fun _ m' H'=>m'=m∧H'=H4 H k (blk b T (cs.set off v))):=
 .ofRun trivial (D1 rfl hx hy) fun w c o a _=>by
  have d:v.cells=#[v]:=by cases v <;> first|rfl|(simp[Value.oneCell']at hv)
  obtain⟨w',g,l⟩:=IM (P:=P) c (off:=off) (vs:=[v]) hH (by simp;omega) (by simpa using hv)
  refine⟨undef,w',.inr ⟨by simp[execOp,a,A6 hx,A6 hy,Instr.storeAt,Instr.sureAddr,storeVar,hz,d,g],rfl⟩,m,_,⟨rfl,rfl⟩,?_⟩
  have f:cs.take off++[v]++cs.drop (off+1)=cs.set off v:=by
   rw[Ua,D' ho];simp
  rw[←f];exact l
theorem JJ{x y:Operand}{t:TypeId}{k b:Nat}{T:TypeId}{cs vs:List Value}{n:Nat}(hz:∀w,(sizeOf t).run P w= .ok n w)
 (hx:ev σ x=some (.pointer (some ⟨b,0,none⟩))) (hy:ev σ y=some (.agg vs.toArray)) (hH:A7 H k=some (blk b T cs)) (hv:∀v∈vs,v.oneCell'=true) (hn:vs.length=n) (hl:cs.length=n):
 OpTo P B m H σ (.store t x y) ty (fun _ m' H'=>m'=m∧H'=H4 H k (blk b T vs)):=
 .ofRun trivial (D1 rfl hx hy) fun w d o a _=>by
  obtain⟨w',g,c⟩:=IM (P:=P) d (off:=0) (vs:=vs) hH (by omega) hv
  refine⟨undef,w',.inr ⟨by simp[execOp,a,A6 hx,A6 hy,Instr.storeAt,Instr.sureAddr,storeVar,hz,Value.cells,hn,g],rfl⟩,m,_,⟨rfl,rfl⟩,?_⟩
  have f:cs.take 0++vs++cs.drop (0+vs.length)=vs:=by simp[SV,hn,hl]
  rw[f]at c;exact c
end
end Go.Kx
