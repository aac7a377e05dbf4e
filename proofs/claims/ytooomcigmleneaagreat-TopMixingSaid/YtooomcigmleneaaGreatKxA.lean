import Derived.Orders
import Derived.Tactics
import Derived.Scope
import Derived.OrdersIn
import Derived.TacticsIn
import Derived.RangeFuncLeaves
import Derived.RangeFuncFrom
set_option linter.all false
namespace Go.Kx
abbrev B5:=List (Nat×Value)
abbrev J(x:Int):Value:=.int .i64 x
abbrev Pt(b k:Nat):Value:=.pointer (some ⟨b,k,none⟩)
abbrev Fc(f:Nat):Value:=.func (.func f) #[] #[]
abbrev S0:Value:=.slice none 0 0
def lk:B5→Nat→Option Value
 | [],_=>none
 |(k,v)::r,t=>match Nat.beq k t with
  |true=>some v
  |false=>lk r t
def ev(σ:B5):Operand→Option Value
 | .tmp t=>lk σ t
 | .const v=>some v
 | .global g=>some (.pointer (some ⟨g,0,none⟩))
 | .func f=>some (.func (.func f) #[] #[])
def S2(σ:B5)(x:Operand):Value:=(ev σ x).getD undef
def mk(D:Nat):Deferred:={target:=.collected D,args:=#[]}
structure Env(N:Nat)(Ds:List Nat)(σ:B5)(a:Act):Prop where
 defers:a.defers=Ds.map mk
 size:a.tmps.size=N
 get:∀t v,lk σ t=some v→a.tmps[t]?=some v
theorem A0C(t:Nat)(v:Value)(σ:B5):lk ((t,v)::σ) t=some v:=by simp[lk]
theorem A1s{t u:Nat}(v:Value)(σ:B5)(h:t≠u):lk ((t,v)::σ) u=lk σ u:=by
 simp only[lk]
 have:Nat.beq t u=false:=by
  cases hb:Nat.beq t u with
  |false=>rfl
  |true=>exact absurd (Nat.eq_of_beq_eq_true hb) h
 rw[this]
theorem Env.put{N:Nat}{Ds:List Nat}{σ:B5}{a:Act}(h:Env N Ds σ a){d:Nat}(hd:d<N)(v:Value):Env N Ds ((d,v)::σ) (a.put (some d) v):=by
 refine⟨h.defers,by simp[Act.put,h.size],?_⟩
 intro t u hu
 by_cases e:d=t
 ·subst e
  rw[A0C]at hu
  cases hu
  simp[Act.put,h.size,hd]
 ·rw[A1s _ _ e]at hu
  simp[Act.put,Array.getElem?_setIfInBounds_ne e,h.get t u hu]
theorem Env.eval{N:Nat}{Ds:List Nat}{σ:B5}{a:Act}(h:Env N Ds σ a){x:Operand}{v:Value}(hx:ev σ x=some v):a.eval x=v:=by
 cases x with
 |tmp t=>simp only[ev]at hx;simp[Act.eval,h.get t v hx]
 |const c=>simp only[ev]at hx;cases hx;rfl
 |global g=>simp only[ev]at hx;cases hx;rfl
 |func f=>simp only[ev]at hx;cases hx;rfl
def Sub:B5→B5→Prop
 | [],_=>True
 |(k,v)::r,σ=>lk σ k=some v∧Sub r σ
theorem Sub.nil{σ:B5}:Sub [] σ:=trivial
theorem Sub.cons{k:Nat}{v:Value}{r σ:B5}(h:lk σ k=some v)(hr:Sub r σ):Sub ((k,v)::r) σ:=⟨h,hr⟩
theorem Sub.lk{σ:B5}:∀{σ':B5},Sub σ' σ→∀t v,lk σ' t=some v→lk σ t=some v
 | [],_,t,v,h=>by simp[Kx.lk]at h
 |p::r,hs,t,v,h=>by
  by_cases e:p.1=t
  ·subst e
   have:p=(p.1,p.2):=rfl
   rw[this,A0C]at h
   cases h
   exact hs.1
  ·have:p=(p.1,p.2):=rfl
   rw[this,A1s _ _ e]at h
   exact Sub.lk hs.2 t v h
theorem Env.weaken{N:Nat}{Ds:List Nat}{σ σ':B5}{a:Act}(h:Env N Ds σ a)(hs:Sub σ' σ):Env N Ds σ' a:=
 ⟨h.defers,h.size,fun t v hv=>h.get t v (hs.lk t v hv)⟩
structure Ext(w w':World):Prop where
 os:w'.os=w.os
 tape:w'.tape=w.tape
 output:w'.output=w.output
 size:w.heap.size≤w'.heap.size
 block:∀b,b<w.heap.size→w'.heap[b]?=w.heap[b]?
theorem Ext.refl(w:World):Ext w w:=⟨rfl,rfl,rfl,Nat.le_refl _,fun _ _=>rfl⟩
theorem Ext.trans{w w1 w2:World}(h:Ext w w1)(h':Ext w1 w2):Ext w w2:=
 ⟨h'.os.trans h.os,h'.tape.trans h.tape,h'.output.trans h.output,Nat.le_trans h.size h'.size,
  fun b hb=>(h'.block b (Nat.lt_of_lt_of_le hb h.size)).trans (h.block b hb)⟩
theorem Ext.alloc(w:World)(o:Obj):Ext w (w.alloc o):=
 ⟨rfl,rfl,rfl,by simp,fun b hb=>by show(w.heap.push o)[b]?=_;rw[Array.getElem?_push,if_neg (Nat.ne_of_lt hb)]⟩
theorem Ext.drew(w:World):Ext w w.drew:=⟨rfl,rfl,rfl,Nat.le_refl _,fun _ _=>rfl⟩
abbrev Mem:=Nat→Option Obj
def Mem.le(m m':Mem):Prop:=∀b o,m b=some o→m' b=some o
def Mem.sub(m:Mem)(w:World):Prop:=∀b o,m b=some o→w.heap[b]?=some o
theorem Mem.le_refl(m:Mem):m.le m:=fun _ _ h=>h
theorem Mem.le_trans{a b c:Mem}(h:a.le b)(h':b.le c):a.le c:=fun x o hx=>h' x o (h x o hx)
theorem Mem.sub.lt{m:Mem}{w:World}(h:m.sub w){b:Nat}{o:Obj}(hb:m b=some o):b<w.heap.size:=
 (Array.getElem?_eq_some_iff.1 (h b o hb)).1
theorem Mem.sub.ext{m:Mem}{w w':World}(h:m.sub w)(he:Ext w w'):m.sub w':=fun b o hb=>(he.block b (h.lt hb)).trans (h b o hb)
def Mem.put(m:Mem)(b:Nat)(o:Obj):Mem:=fun x=>if x=b then some o else m x
def Mem.all(w:World):Mem:=fun b=>w.heap[b]?
structure Ent where
 ids:List Nat
 holds:World→Prop
 loc:∀w w':World,(∀b∈ids,w'.heap[b]?=w.heap[b]?)→holds w→holds w'
 bound:∀w,holds w→∀b∈ids,b<w.heap.size
def B7:List Ent→List Nat
 | []=>[]
 |e::H=>e.ids++B7 H
theorem A2n{H:List Ent}{e:Ent}(he:e∈H){b:Nat}(hb:b∈e.ids):b∈B7 H:=by
 induction H with
 |nil=>cases he
 |cons x H ih=>
  simp only[B7,List.mem_append]
  cases he with
  |head=>exact .inl hb
  |tail _ h=>exact .inr (ih h)
theorem E0(A B:List Ent):B7 (A++B)=B7 A++B7 B:=by
 induction A with
 |nil=>rfl
 |cons x A ih=>simp[B7,ih]
theorem A6M{H:List Ent}{b:Nat}:b∈B7 H↔∃e∈H,b∈e.ids:=by
 induction H with
 |nil=>simp[B7]
 |cons x H ih=>simp[B7,ih]
structure Base where
 w:World
 X:List Nat
 m:Mem
structure St(B:Base)(m:Mem)(H:List Ent)(w:World):Prop where
 os:w.os=B.w.os
 tape:w.tape=B.w.tape
 output:w.output=B.w.output
 size:B.w.heap.size≤w.heap.size
 base:∀b,b<B.w.heap.size→b ∉ B.X→w.heap[b]?=B.w.heap[b]?
 sub:m.sub w
 le:B.m.le m
 new:∀b,b<B.w.heap.size→m b=B.m b
 own:∀e∈H,e.holds w
 ids:∀b∈B7 H,b∈B.X∨B.w.heap.size≤b
 avoid:∀b∈B7 H,m b=none
 nodup:(B7 H).Nodup
theorem St.start(w:World)(m:Mem)(h:m.sub w):St ⟨w,[],m⟩ m [] w:=
 ⟨rfl,rfl,rfl,Nat.le_refl _,fun _ _ _=>rfl,h,Mem.le_refl _,fun _ _=>rfl,by simp,by simp[B7],by simp[B7],by simp[B7]⟩
theorem St.lt{B:Base}{m:Mem}{H:List Ent}{w:World}(h:St B m H w){b:Nat}(hb:b∈B7 H):b<w.heap.size:=by
 obtain⟨e,he,hbe⟩:=A6M.1 hb
 exact e.bound w (h.own e he) b hbe
theorem St.ext{B:Base}{m:Mem}{H:List Ent}{w w':World}(h:St B m H w)(he:Ext w w'):St B m H w' where
 os:=he.os.trans h.os
 tape:=he.tape.trans h.tape
 output:=he.output.trans h.output
 size:=Nat.le_trans h.size he.size
 base b hb hx:=(he.block b (Nat.lt_of_lt_of_le hb h.size)).trans (h.base b hb hx)
 sub:=h.sub.ext he
 le:=h.le
 new:=h.new
 own e hm:=e.loc w w' (fun b hb=>he.block b (e.bound w (h.own e hm) b hb)) (h.own e hm)
 ids:=h.ids
 avoid:=h.avoid
 nodup:=h.nodup
theorem St.weaken{B:Base}{m:Mem}{H H':List Ent}{w:World}(h:St B m H w)(hs:H'.Sublist H):St B m H' w:=by
 have hids:(B7 H').Sublist (B7 H):=by
  clear h
  induction hs with
  |slnil=>exact List.Sublist.refl _
  |cons a _ ih=>exact ih.trans (List.sublist_append_right _ _)
  |cons_cons a _ ih=>exact List.Sublist.append (List.Sublist.refl _) ih
 exact{h with
  own:=fun e he=>h.own e (hs.subset he)
  ids:=fun b hb=>h.ids b (hids.subset hb)
  avoid:=fun b hb=>h.avoid b (hids.subset hb)
  nodup:=h.nodup.sublist hids}
theorem St.perm{B:Base}{m:Mem}{H H':List Ent}{w:World}(h:St B m H w)(hp:H'.Perm H):St B m H' w:=by
 have hids:(B7 H').Perm (B7 H):=by
  clear h
  induction hp with
  |nil=>exact List.Perm.refl _
  |cons a _ ih=>exact ih.append_left _
  |swap a b l=>simp only[B7];rw[←List.append_assoc,←List.append_assoc];exact List.Perm.append_right _ List.perm_append_comm
  |trans _ _ ih1 ih2=>exact ih1.trans ih2
 exact{h with
  own:=fun e he=>h.own e (hp.mem_iff.1 he)
  ids:=fun b hb=>h.ids b (hids.mem_iff.1 hb)
  avoid:=fun b hb=>h.avoid b (hids.mem_iff.1 hb)
  nodup:=hids.nodup_iff.2 h.nodup}
theorem St.push{B:Base}{m:Mem}{H:List Ent}{w w':World}(h:St B m H w)(he:Ext w w')(E:Ent)(hE:E.holds w')
 (hnew:∀b∈E.ids,w.heap.size≤b) (hnd:E.ids.Nodup):St B m (E::H) w':=by
 have h':=h.ext he
 refine{h' with own:=?_,ids:=?_,avoid:=?_,nodup:=?_}
 ·intro e hm
  cases hm with
  |head=>exact hE
  |tail _ hm=>exact h'.own e hm
 ·intro b hb
  simp only[B7,List.mem_append]at hb
  rcases hb with hb|hb
  ·exact .inr (Nat.le_trans h.size (hnew b hb))
  ·exact h'.ids b hb
 ·intro b hb
  simp only[B7,List.mem_append]at hb
  rcases hb with hb|hb
  ·cases hm:m b with
   |none=>rfl
   |some o=>exact absurd (h.sub.lt hm) (Nat.not_lt.2 (hnew b hb))
  ·exact h'.avoid b hb
 ·simp only[B7]
  refine List.nodup_append.2 ⟨hnd,h.nodup,?_⟩
  intro b hb c hc hbc
  subst hbc
  exact absurd (h.lt hc) (Nat.not_lt.2 (hnew b hb))
theorem St.freshMem{B:Base}{m:Mem}{H:List Ent}{w:World}(h:St B m H w)(o:Obj):
 St B (m.put w.heap.size o) H (w.alloc o)∧m.le (m.put w.heap.size o):=by
 have h':=h.ext (Ext.alloc w o)
 have hno:m w.heap.size=none:=by
  cases hm:m w.heap.size with
  |none=>rfl
  |some o'=>exact absurd (h.sub.lt hm) (Nat.lt_irrefl _)
 have hle:m.le (m.put w.heap.size o):=fun b x hb=>by
  have:b≠w.heap.size:=fun e=>by rw[e,hno]at hb;cases hb
  simp[Mem.put,this,hb]
 refine⟨{h' with sub:=?_,le:=Mem.le_trans h.le hle,new:=?_,avoid:=?_},hle⟩
 ·intro b x hb
  by_cases e:b=w.heap.size
  ·subst e;simp[Mem.put]at hb;subst hb;show(w.heap.push o)[_]?=_;simp
  ·simp only[Mem.put,e,if_false]at hb;exact h'.sub b x hb
 ·intro b hb
  have:b≠w.heap.size:=Nat.ne_of_lt (Nat.lt_of_lt_of_le hb h.size)
  simp[Mem.put,this,h.new b hb]
 ·intro b hb
  have:b≠w.heap.size:=Nat.ne_of_lt (h.lt hb)
  simp[Mem.put,this,h.avoid b hb]
def Ret(B:Base)(Q:Mem→List Ent→Value→Prop)(e:Ending)(w':World):Prop:=∃v m' H',e= .returned v∧St B m' H' w'∧Q m' H' v
def Pure(P:Program)(f:FuncId)(args:Array Value)(m:Mem)(Q:Mem→Value→Prop):Prop:=
 ∀w,m.sub w→Calls P f args w (Ret ⟨w,[],m⟩ fun m' _ v=>Q m' v)
def Exact(P:Program)(f:FuncId)(args:Array Value)(m:Mem)(v:Value):Prop:=Pure P f args m fun _ v'=>v'=v
def Mut(P:Program)(f:FuncId)(args:Array Value)(m:Mem)(Es:List Ent)(Q:Mem→List Ent→Value→Prop):Prop:=
 ∀w,St ⟨w,B7 Es,m⟩ m Es w→Calls P f args w (Ret ⟨w,B7 Es,m⟩ Q)
theorem Pure.mono{P:Program}{f:FuncId}{args:Array Value}{m:Mem}{Q Q':Mem→Value→Prop}(h:Pure P f args m Q)(hq:∀m' v,m.le m'→Q m' v→Q' m' v):
 Pure P f args m Q':=
 fun w hw=>(h w hw).mono fun _ _ ⟨v,m',H',he,hs,q⟩=>⟨v,m',H',he,hs,hq _ _ hs.le q⟩
theorem Ret.ext{B:Base}{Q:Mem→List Ent→Value→Prop}{e:Ending}{w':World}(h:Ret B Q e w')(hX:B.X=[]):Ext B.w w':=by
 obtain⟨v,m',H',_,hs,_⟩:=h
 exact⟨hs.os,hs.tape,hs.output,hs.size,fun b hb=>hs.base b hb (by simp[hX])⟩
theorem St.called{B:Base}{m m':Mem}{H H':List Ent}{w w':World}(h:St B m H w)(h':St ⟨w,[],m⟩ m' H' w'):St B m' H w':=by
 have he:Ext w w':=⟨h'.os,h'.tape,h'.output,h'.size,fun b hb=>h'.base b hb (by simp)⟩
 have h2:=h.ext he
 refine{h2 with sub:=h'.sub,le:=Mem.le_trans h.le h'.le,new:=?_,avoid:=?_}
 ·intro b hb
  rw[h'.new b (Nat.lt_of_lt_of_le hb h.size)]
  exact h.new b hb
 ·intro b hb
  rw[h'.new b (h.lt hb)]
  exact h.avoid b hb
theorem St.handed{B:Base}{m m':Mem}{Es Es' R:List Ent}{w w':World}(h:St B m (Es++R) w)(h':St ⟨w,B7 Es,m⟩ m' Es' w'):St B m' (Es'++R) w':=by
 have hnd:(B7 Es++B7 R).Nodup:=by rw[←E0];exact h.nodup
 have hdis:∀b∈B7 Es,∀c∈B7 R,b≠c:=(List.nodup_append.1 hnd).2.2
 have hRlt:∀b∈B7 R,b<w.heap.size:=fun b hb=>h.lt (by rw[E0];exact List.mem_append_right _ hb)
 have hElt:∀b∈B7 Es,b<w.heap.size:=fun b hb=>h.lt (by rw[E0];exact List.mem_append_left _ hb)
 have hRkeep:∀b∈B7 R,w'.heap[b]?=w.heap[b]?:=fun b hb=>h'.base b (hRlt b hb) (fun hx=>hdis b hx b hb rfl)
 have hEs':∀b∈B7 Es',b∈B7 Es∨w.heap.size≤b:=h'.ids
 have hbX:∀b∈B7 Es,b∈B.X∨B.w.heap.size≤b:=fun b hb=>h.ids b (by rw[E0];exact List.mem_append_left _ hb)
 refine⟨h'.os.trans h.os,h'.tape.trans h.tape,h'.output.trans h.output,Nat.le_trans h.size h'.size,?_,h'.sub,Mem.le_trans h.le h'.le,?_,?_,?_,?_,?_⟩
 ·intro b hb hx
  have hb':b<w.heap.size:=Nat.lt_of_lt_of_le hb h.size
  rw[h'.base b hb' (fun hin=>by rcases hbX b hin with h1|h1;exact hx h1;exact absurd hb (Nat.not_lt.2 h1))]
  exact h.base b hb hx
 ·intro b hb
  rw[h'.new b (Nat.lt_of_lt_of_le hb h.size)]
  exact h.new b hb
 ·intro e he
  rcases List.mem_append.1 he with he|he
  ·exact h'.own e he
  ·exact e.loc w w' (fun b hb=>hRkeep b (A2n he hb)) (h.own e (List.mem_append_right _ he))
 ·intro b hb
  rw[E0,List.mem_append]at hb
  rcases hb with hb|hb
  ·rcases hEs' b hb with h1|h1
   ·exact hbX b h1
   ·exact .inr (Nat.le_trans h.size h1)
  ·exact h.ids b (by rw[E0];exact List.mem_append_right _ hb)
 ·intro b hb
  rw[E0,List.mem_append]at hb
  rcases hb with hb|hb
  ·exact h'.avoid b hb
  ·rw[h'.new b (hRlt b hb)]
   exact h.avoid b (by rw[E0];exact List.mem_append_right _ hb)
 ·rw[E0]
  refine List.nodup_append.2 ⟨h'.nodup,(List.nodup_append.1 hnd).2.1,?_⟩
  intro b hb c hc hbc
  subst hbc
  rcases hEs' b hb with h1|h1
  ·exact hdis b h1 b hc rfl
  ·exact absurd (hRlt b hc) (Nat.not_lt.2 h1)
def D7(b:Nat)(o:Obj):Ent where
 ids:=[b]
 holds w:=w.heap[b]?=some o
 loc w w' h hw:=by rw[h b (List.mem_singleton.2 rfl)];exact hw
 bound w hw b' hb:=by
  have:b'=b:=by simpa using hb
  subst this;exact(Array.getElem?_eq_some_iff.1 hw).1
def marks(Ds:List Nat):List Ent:=Ds.map fun D=>D7 D (.deferred (some []))
theorem St.part{B:Base}{m:Mem}{Es R:List Ent}{w:World}(h:St B m (Es++R) w):St ⟨w,B7 Es,m⟩ m Es w:=by
 refine⟨rfl,rfl,rfl,Nat.le_refl _,fun _ _ _=>rfl,h.sub,Mem.le_refl _,fun _ _=>rfl,fun e he=>h.own e (List.mem_append_left _ he),fun b hb=>.inl hb,
  fun b hb=>h.avoid b (by rw[E0];exact List.mem_append_left _ hb),?_⟩
 have:=h.nodup;rw[E0]at this;exact(List.nodup_append.1 this).1
def notSel:Op→Prop
 | .select _ _=>False
 | .defer _=>False
 |_=>True
def fen:Option Nat→Fence
 |none=>Fence.wide
 |some r=>Fence.wide.inRound r
theorem A1a(M:Option Nat)(f:FuncId):(fen M).fn f:=by cases M <;> trivial
theorem A2r(M:Option Nat):(fen M).depth=none:=by cases M <;> rfl
theorem A5f(M:Option Nat){n:Nat}{P:Program}{f:FuncId}{args:Array Value}{w:World}{R:Ending→World→Prop}(h:Calls P f args w R):CallsIn (fen M) n P f args w R:=by
 have:=(callsIn_wide (n:=n)).2 h
 cases M <;> exact this
theorem C1e(M:Option Nat){n:Nat}{P:Program}{row:String}{args:Array Value}{w:World}{R:Value→World→Prop}(h:Rows P row args w R):RowsIn (fen M) n P row args w R:=by
 have:RowsIn Fence.wide n P row args w R:=fun c cs _=>by
  obtain⟨v,w',r,s⟩:=h c cs
  exact⟨v,w',r,stepsIn_wide.2 s⟩
 cases M <;> exact this
theorem M4(M:Option Nat){P:Program}{o:Oper}{a:Act}{next:Act→World→Prop}{Q:Exit→Act→World→Prop}:∀{r:Result Next},o.upon P a next Q r→o.uponIn (fen M) 0 P a next Q r
 | .ok x w',h=>by
  cases x <;> simp only[Oper.upon,Oper.uponIn]at h⊢ <;>
   first
    |exact h
    |exact⟨by simp[A2r],A5f M h⟩
    |exact⟨by simp[A2r],C1e M h⟩
 | .halt x w',h=>by cases x <;> simp only[Oper.upon,Oper.uponIn]at h⊢ <;> exact h
theorem notSel.def{op:Op}(h:notSel op):∀c,op≠ .defer c:=by intro c e;rw[e]at h;exact h
def defd(σ:B5)(op:Op):Prop:=∀x∈op.operands,∃v,ev σ x=some v
structure OpX(P:Program)(B:Base)(m:Mem)(H:List Ent)(σ:B5)(op:Op)(ty:TypeId)(V:Value):Prop where
 sel:notSel op
 defd:defd σ op
 run:∀w,St B m H w→∀(o:Oper) (a:Act) (next:Act→World→Prop) (Q:Exit→Act→World→Prop),o.op=op→o.type=ty→
  (∀w',Ext w w'→next (a.put o.dst V) w')→o.upon P a next Q ((execOp (S2 σ) o).run P w)
structure OpTo(P:Program)(B:Base)(m:Mem)(H:List Ent)(σ:B5)(op:Op)(ty:TypeId)(T:Value→Mem→List Ent→Prop):Prop where
 sel:notSel op
 defd:defd σ op
 run:∀(M:Option Nat) (B:Base) w,St B m H w→∀(o:Oper) (a:Act) (next:Act→World→Prop) (Q:Exit→Act→World→Prop),o.op=op→o.type=ty→
  (∀v m' H' w',T v m' H'→St B m' H' w'→next (a.put o.dst v) w')→o.uponIn (fen M) 0 P a next Q ((execOp (S2 σ) o).run P w)
theorem OpTo.frame{P:Program}{B:Base}{m:Mem}{H R:List Ent}{σ:B5}{op:Op}{ty:TypeId}{T:Value→Mem→List Ent→Prop}(h:OpTo P B m H σ op ty T):
 OpTo P B m (H++R) σ op ty (fun v m' H''=>∃H',T v m' H'∧H''=H'++R):=
 ⟨h.sel,h.defd,fun M B w hw o a next Q ho ht k=>by
  have hin:St ⟨w,B7 H,m⟩ m H w:=hw.part
  exact h.run M _ w hin o a next Q ho ht fun v m' H' w' hT hs=>k v m' _ w' ⟨H',hT,rfl⟩ (hw.handed hs)⟩
theorem OpX.frame{P:Program}{B:Base}{m:Mem}{H R:List Ent}{σ:B5}{op:Op}{ty:TypeId}{V:Value}(h:OpX P B m H σ op ty V):OpX P B m (H++R) σ op ty V:=
 ⟨h.sel,h.defd,fun w hw=>h.run w (hw.weaken (List.sublist_append_left _ _))⟩
def WL(M:Option Nat)(P:Program)(N:Nat)(ops:Array Oper)(Q:Exit→Act→World→Prop)(B:Base)(m:Mem)(H:List Ent)(σ:B5)(l:List Oper):Prop:=
 ∀Ds w,St B m (H++marks Ds) w→∀a,Env N Ds σ a→wpListIn (fen M) 0 P ops Q l a w
def WK(N:Nat)(B:Base)(m:Mem)(H:List Ent)(σ:B5)(K:Act→World→Prop):Prop:=
 ∀Ds w,St B m (H++marks Ds) w→∀a,Env N Ds σ a→K a w
abbrev WC(M:Option Nat)(P:Program)(N:Nat)(Q:Exit→Act→World→Prop)(B:Base)(m:Mem)(H:List Ent)(σ:B5)(c:Code):Prop:=
 WK N B m H σ (c.wpIn (fen M) 0 P Q)
theorem A7u{N:Nat}{Ds:List Nat}{σ:B5}{a:Act}(ha:Env N Ds σ a)(o:Oper)(hs:notSel o.op)(hd:defd σ o.op):execOp a.eval o=execOp (S2 σ) o:=
 execOp_congr o (fun cs b e=>by rw[e]at hs;exact hs) fun x hx=>by
  obtain⟨v,hv⟩:=hd x hx
  rw[ha.eval hv]
  simp[S2,hv]
section
variable{M:Option Nat}{P:Program}{N:Nat}{ops:Array Oper}{Q:Exit→Act→World→Prop}{B:Base}{m:Mem}{H:List Ent}{σ:B5}{rest:List Oper}
 {d:Nat} {op:Op} {ty:TypeId} {pos:String} {after:Array Edge}
theorem WL.nil(h:WK N B m H σ (Q .normal)):WL M P N ops Q B m H σ []:=h
theorem O4{T:Value→Mem→List Ent→Prop}(h:OpTo P B m H σ op ty T)(hd:d<N)
 (k:∀v m' H',T v m' H'→WL M P N ops Q B m' H' ((d,v)::σ) rest):WL M P N ops Q B m H σ (⟨some d,op,ty,pos,after,none⟩::rest):=by
 intro Ds w hw a ha
 unfold wpListIn
 rw[if_pos (by simp[Region.wanted])]
 refine⟨fun f _=>A1a M f,?_⟩
 rw[Oper.semAt_eq _ _ _ h.sel.def,A7u ha _ h.sel h.defd]
 exact h.frame.run M _ w hw _ a _ Q rfl rfl fun v m' H'' w' ⟨H',ht,hH⟩ hs=>k v m' H' ht Ds w' (hH▸hs) _ (ha.put hd v)
theorem B3g{T:Value→Mem→List Ent→Prop}(h:OpTo P B m H σ op ty T)
 (k:∀v m' H',T v m' H'→WL M P N ops Q B m' H' σ rest):WL M P N ops Q B m H σ (⟨none,op,ty,pos,after,none⟩::rest):=by
 intro Ds w hw a ha
 unfold wpListIn
 rw[if_pos (by simp[Region.wanted])]
 refine⟨fun f _=>A1a M f,?_⟩
 rw[Oper.semAt_eq _ _ _ h.sel.def,A7u ha _ h.sel h.defd]
 exact h.frame.run M _ w hw _ a _ Q rfl rfl fun v m' H'' w' ⟨H',ht,hH⟩ hs=>k v m' H' ht Ds w' (hH▸hs) a ha
theorem WL.x{V:Value}(h:OpX P B m H σ op ty V)(hd:d<N)(k:WL M P N ops Q B m H ((d,V)::σ) rest):
 WL M P N ops Q B m H σ (⟨some d,op,ty,pos,after,none⟩::rest):=by
 intro Ds w hw a ha
 unfold wpListIn
 rw[if_pos (by simp[Region.wanted])]
 refine⟨fun f _=>A1a M f,?_⟩
 rw[Oper.semAt_eq _ _ _ h.sel.def,A7u ha _ h.sel h.defd]
 exact M4 M (h.frame.run w hw _ a _ Q rfl rfl fun w' he=>k Ds w' (hw.ext he) _ (ha.put hd V))
theorem WL.yes{dst:Option Nat}{j t:Nat}{b:Bool}(hj:(ops[j]?).bind (·.dst)=some t)(ht:lk σ t=some (.bool b))
 (k:WL M P N ops Q B m H σ (⟨dst,op,ty,pos,after,none⟩::rest)):WL M P N ops Q B m H σ (⟨dst,op,ty,pos,after,some (j,b)⟩::rest):=by
 intro Ds w hw a ha
 have hw':=k Ds w hw a ha
 unfold wpListIn at hw'⊢
 rw[if_pos (by simp[Region.wanted])]at hw'
 rw[if_pos (by simp[Region.wanted,yielded,hj,ha.get t _ ht])]
 exact hw'
theorem WL.no{j t:Nat}{b c:Bool}(hj:(ops[j]?).bind (·.dst)=some t)(ht:lk σ t=some (.bool c))(hbc:b= !c)(hd:d<N)
 (k:WL M P N ops Q B m H ((d,undef)::σ) rest):WL M P N ops Q B m H σ (⟨some d,op,ty,pos,after,some (j,b)⟩::rest):=by
 intro Ds w hw a ha
 unfold wpListIn
 rw[if_neg (by subst hbc;cases c <;> simp[Region.wanted,yielded,hj,ha.get t _ ht])]
 exact⟨fun f _=>A1a M f,k Ds w hw _ (ha.put hd undef)⟩
theorem C6H{j t:Nat}{b:Bool}(hj:(ops[j]?).bind (·.dst)=some t)(ht:lk σ t=some undef)(hd:d<N)
 (k:WL M P N ops Q B m H ((d,undef)::σ) rest):WL M P N ops Q B m H σ (⟨some d,op,ty,pos,after,some (j,b)⟩::rest):=by
 intro Ds w hw a ha
 unfold wpListIn
 rw[if_neg (by simp[Region.wanted,yielded,hj,ha.get t _ ht,undef])]
 exact⟨fun f _=>A1a M f,k Ds w hw _ (ha.put hd undef)⟩
theorem WK.split{K:Act→World→Prop}{t:Nat}{p:Prop}[Decidable p](ht:lk σ t=some (.bool (decide p)))
 (hy:p→WK N B m H ((t,.bool true)::σ) K) (hn:¬p→WK N B m H ((t,.bool false)::σ) K):WK N B m H σ K:=by
 intro Ds w hw a ha
 have key:∀b:Bool,lk σ t=some (.bool b)→Env N Ds ((t,.bool b)::σ) a:=fun b hb=>
  ⟨ha.defers,ha.size,fun u v hu=>by
   by_cases e:t=u
   ·subst e;rw[A0C]at hu;cases hu;exact ha.get t _ hb
   ·rw[A1s _ _ e]at hu;exact ha.get u v hu⟩
 by_cases hp:p
 ·exact hy hp Ds w hw a (key true (by rw[ht,decide_eq_true hp]))
 ·exact hn hp Ds w hw a (key false (by rw[ht,decide_eq_false hp]))
theorem WL.split{t:Nat}{p:Prop}[Decidable p]{l:List Oper}(ht:lk σ t=some (.bool (decide p)))
 (hy:p→WL M P N ops Q B m H ((t,.bool true)::σ) l) (hn:¬p→WL M P N ops Q B m H ((t,.bool false)::σ) l):WL M P N ops Q B m H σ l:=
 WK.split (K:=wpListIn (fen M) 0 P ops Q l) ht hy hn
theorem WC.region{id:Nat}{l:List Oper}(h:WL M P N l.toArray Q B m H σ l):WC M P N Q B m H σ (.region id l.toArray false):=
 fun Ds w hw a ha=>wpIn_region_lit (h Ds w hw a ha)
theorem WC.seq{x y:Code}(h:WC M P N (Exit.then (y.wpIn (fen M) 0 P Q) Q) B m H σ x):WC M P N Q B m H σ (.seq x y):=
 fun Ds w hw a ha=>wpIn_seq (h Ds w hw a ha)
theorem WC.skip(h:WK N B m H σ (Q .normal)):WC M P N Q B m H σ .skip:=fun Ds w hw a ha=>wpIn_skip (h Ds w hw a ha)
theorem WC.label{l:Nat}(h:WK N B m H σ (Q .normal)):WC M P N Q B m H σ (.label l):=fun Ds w hw a ha=>wpIn_label (h Ds w hw a ha)
theorem WC.block{id:Nat}{c:Code}(h:WC M P N (Exit.inBlock id Q) B m H σ c):WC M P N Q B m H σ (.block id c):=
 fun Ds w hw a ha=>wpIn_block (h Ds w hw a ha)
theorem WC.exit{id:Nat}(h:WK N B m H σ (Q (.exit id))):WC M P N Q B m H σ (.exit id):=fun Ds w hw a ha=>wpIn_exit (h Ds w hw a ha)
theorem WC.ret(h:WK N B m H σ (Q .ret)):WC M P N Q B m H σ .ret:=fun Ds w hw a ha=>wpIn_ret (h Ds w hw a ha)
theorem WC.cond{c:Operand}{x y:Code}{p:Prop}[Decidable p](hc:ev σ c=some (.bool (decide p)))
 (ht:p→WC M P N Q B m H σ x) (hf:¬p→WC M P N Q B m H σ y):WC M P N Q B m H σ (.cond c x y):=
 fun Ds w hw a ha=>wpIn_cond_split (t:=decide p) (ha.eval hc) (fun e=>ht (of_decide_eq_true e) Ds w hw a ha) (fun e=>hf (of_decide_eq_false e) Ds w hw a ha)
theorem K8{c:Operand}{x y:Code}{b:Bool}(hc:ev σ c=some (.bool b))
 (ht:b=true→WC M P N Q B m H σ x) (hf:b=false→WC M P N Q B m H σ y):WC M P N Q B m H σ (.cond c x y):=
 fun Ds w hw a ha=>wpIn_cond_split (t:=b) (ha.eval hc) (fun e=>ht e Ds w hw a ha) (fun e=>hf e Ds w hw a ha)
theorem C0K{c:Operand}{x y:Code}(hc:ev σ c=some (.bool true))(ht:WC M P N Q B m H σ x):WC M P N Q B m H σ (.cond c x y):=
 fun Ds w hw a ha=>wpIn_cond_true (ha.eval hc) (ht Ds w hw a ha)
theorem C1b{c:Operand}{x y:Code}(hc:ev σ c=some (.bool false))(hf:WC M P N Q B m H σ y):WC M P N Q B m H σ (.cond c x y):=
 fun Ds w hw a ha=>wpIn_cond_false (ha.eval hc) (hf Ds w hw a ha)
theorem WK.weaken{K:Act→World→Prop}{H':List Ent}{σ':B5}(hH:H'.Sublist H)(hσ:Sub σ' σ)(h:WK N B m H' σ' K):WK N B m H σ K:=
 fun Ds w hw a ha=>h Ds w (hw.weaken (hH.append_right _)) a (ha.weaken hσ)
theorem R0{K:Act→World→Prop}{σ':B5}(hσ:Sub σ' σ)(h:WK N B m H σ' K):WK N B m H σ K:=
 fun Ds w hw a ha=>h Ds w hw a (ha.weaken hσ)
theorem WC.loop{c:Code}{G:Type}(μ:G→Nat)(mG:G→Mem)(HG:G→List Ent)(σG:G→B5)(F:G→Prop)(g0:G)
 (hm0:m=mG g0) (hH0:(HG g0).Sublist H) (hσ0:Sub (σG g0) σ) (hF0:F g0)
 (round:∀g,F g→WC M P N (Exit.then (fun a w=>∃g' Ds',F g'∧μ g'<μ g∧St B (mG g') (HG g'++marks Ds') w∧Env N Ds' (σG g') a) Q) B (mG g) (HG g) (σG g) c):
 WC M P N Q B m H σ (.loop c):=by
 intro Ds w hw a ha b k cs hro hb hr
 have key:∀n g Ds a w,μ g=n→F g→St B (mG g) (HG g++marks Ds) w→Env N Ds (σG g) a→
  ∃e a' w',Q e a' w'∧ArrivesIn (Machine.fenced P (fen M)) P (lone (b.atR a (.code c:: .inLoop c::k)) cs w) b k cs e a' w':=by
  intro n
  induction n using Nat.strongRecOn with
  |_ n ih=>
   intro g Ds a w hn hF hs he
   obtain⟨e,a₁,w₁,hq,harr⟩:=round g hF Ds w hs a he b (.inLoop c::k) cs hro hb hr
   cases e with
   |normal=>
    obtain⟨g',Ds',hF',hlt,hs',he'⟩:=hq
    obtain⟨e₂,a₂,w₂,hq₂,harr₂⟩:=ih (μ g') (hn▸hlt) g' Ds' a₁ w₁ rfl hF' hs' he'
    exact⟨e₂,a₂,w₂,hq₂,.of_steps (StepsIn.trans harr (.one (fenced_calm hb hr rfl) stepR_inLoop)) harr₂⟩
   |exit id=>exact⟨_,a₁,w₁,hq,.pass (x:=.inLoop c) rfl (fun _ _=>.inl (by simp)) harr⟩
   |goto l=>exact⟨_,a₁,w₁,hq,.pass (x:=.inLoop c) rfl (fun _ _=>.inl (by simp)) harr⟩
   |ret=>exact⟨_,a₁,w₁,hq,.pass (x:=.inLoop c) rfl (fun _ _=>.inl (by simp)) harr⟩
   |panic ch=>exact⟨_,a₁,w₁,hq,.pass (x:=.inLoop c) rfl (fun _ _=>.inl (by simp)) harr⟩
   |outgrown=>exact⟨_,a₁,w₁,hq,.pass (x:=.inLoop c) rfl (fun _ _=>.inl (by simp)) harr⟩
 obtain⟨e,a',w',hq,harr⟩:=key _ g0 Ds a w rfl hF0 (hm0▸hw.weaken (hH0.append_right _)) (ha.weaken hσ0)
 exact⟨e,a',w',hq,.of_steps (.one (fenced_calm hb hr rfl) stepR_loop) harr⟩
theorem WK.next{G:Type}{μ:G→Nat}{mG:G→Mem}{HG:G→List Ent}{σG:G→B5}{F:G→Prop}{n:Nat}(g':G)
 (hm:m=mG g') (hH:(HG g').Sublist H) (hσ:Sub (σG g') σ) (hF:F g') (hμ:μ g'<n):
 WK N B m H σ fun a w=>∃g' Ds',F g'∧μ g'<n∧St B (mG g') (HG g'++marks Ds') w∧Env N Ds' (σG g') a:=
 fun Ds _ hw _ ha=>⟨g',Ds,hF,hμ,hm▸hw.weaken (hH.append_right _),ha.weaken hσ⟩
theorem B9L{P:Program}{w:World}{D:Nat}(h:w.heap[D]?=some (.deferred (some []))):(Instr.takeDeferred D).run P w= .ok [] (w.putObj D (.deferred none)):=run_takeDeferred h
theorem St.drop{B:Base}{m:Mem}{H:List Ent}{D:Nat}{R:List Ent}{w:World}(h:St B m (H++D7 D (.deferred (some []))::R) w):St B m (H++R) (w.putObj D (.deferred none)):=by
 have hperm:([D7 D (.deferred (some []))]++(H++R)).Perm (H++D7 D (.deferred (some []))::R):=by simpa using List.perm_middle.symm
 have h1:=h.perm hperm
 have hD:w.heap[D]?=some (.deferred (some [])):=h.own (D7 D _) (by simp)
 have hlt:D<w.heap.size:=(Array.getElem?_eq_some_iff.1 hD).1
 have hother:∀b,b≠D→(w.putObj D (.deferred none)).heap[b]?=w.heap[b]?:=fun b hb=>World.putObj_heap_other hb
 have hin:St ⟨w,B7 [D7 D (.deferred (some []))],m⟩ m [] (w.putObj D (.deferred none)):=by
  refine⟨rfl,rfl,rfl,by simp,?_,?_,Mem.le_refl _,fun _ _=>rfl,by simp,by simp[B7],by simp[B7],by simp[B7]⟩
  ·intro b _ hb;exact hother b (by simpa[B7,D7]using hb)
  ·intro b o hb
   rw[hother b (fun e=>by
    have:=h1.avoid D (by simp[B7,D7])
    rw[←e,hb]at this;cases this)]
   exact h.sub b o hb
 simpa using h1.handed hin
theorem A6Y{P:Program}{fn:Func}{tmps:Array Value}{R:Ending→World→Prop}{B:Base}{m:Mem}{H:List Ent}:
 ∀(Ds:List Nat) (w:World),St B m (H++marks Ds) w→(∀w',St B m H w'→LeavesIn Fence.wide 0 P fn tmps R [] .returning w')→LeavesInM Fence.wide 0 P fn tmps R (Ds.map mk) .returning w
 | [],w,hw,h=>h w (by simpa[marks]using hw)
 |D::Ds,w,hw,h=>by
  refine⟨by simp,.inl ⟨D,_,rfl,B9L (hw.own (D7 D _) (by simp[marks])),?_⟩⟩
  exact A6Y Ds _ (by simpa[marks]using hw.drop) h
def L8(P:Program)(fn:Func)(R:Ending→World→Prop):Exit→Act→World→Prop:=bodyPostM Fence.wide 0 P fn R
theorem Calls.enter{f:FuncId}{fn:Func}{c:Code}{args:Array Value}{w:World}{R:Ending→World→Prop}{H0:List Ent}{σ0:B5}
 (hf:P.funcs[f]?=some fn) (hb:fn.body=some c) (hN:fn.ntmps=N) (hs:St B m H0 w) (hσ:∀t v,lk σ0 t=some v→args[t]?=some v) (hsz:args.size≤N)
 (h:WC none P N (L8 P fn R) B m H0 σ0 c):Calls P f args w R:=by
 refine(callsIn_wide (n:=0)).1 (callsIn_of_wp_marks hf hb trivial (h [] w (by simpa[marks]using hs) _ ⟨rfl,?_,?_⟩))
 ·simp;omega
 ·intro t v hv
  have:=hσ t v hv
  rw[Array.getElem?_append]
  have hlt:t<args.size:=(Array.getElem?_eq_some_iff.1 this).1
  rw[if_pos hlt];exact this
theorem A2F{fn:Func}{R:Ending→World→Prop}{v:Value}{e:Exit}(he:e= .ret∨e= .normal)
 (hres:∀w,St B m H w→∀a:Array Value,(∀t v,lk σ t=some v→a[t]?=some v)→(results fn a).run P w= .ok v w)
 (hR:∀w,St B m H w→R (.returned v) w):WK N B m H σ (L8 P fn R e):=by
 intro Ds w hw a ha
 have key:LeavesInM Fence.wide 0 P fn a.tmps R a.defers .returning w:=by
  rw[ha.defers]
  exact A6Y Ds w hw fun w' hw'=>⟨v,hres w' hw' a.tmps ha.get,hR w' hw'⟩
 rcases he with rfl|rfl <;> exact key
theorem B0y{a:Array Value}{t:Nat}{v:Value}(h:a[t]?=some v):a.getD t undef=v:=by rw[Array.getD_eq_getD_getElem?,h];rfl
theorem A0{fn:Func}{R:Ending→World→Prop}{t:Nat}{v:Value}(hres:fn.results=#[.tmp t])(hv:lk σ t=some v)
 (hR:∀w,St B m H w→R (.returned v) w):WK N B m H σ (L8 P fn R .ret):=
 A2F (.inl rfl) (fun w _ a ha=>by rw[results_tmp hres,B0y (ha t v hv)]) hR
theorem B6{fn:Func}{R:Ending→World→Prop}{t u:Nat}{v v':Value}(hres:fn.results=#[.tmp t,.tmp u])(hv:lk σ t=some v)(hv':lk σ u=some v')
 (hR:∀w,St B m H w→R (.returned (.tuple #[v,v'])) w):WK N B m H σ (L8 P fn R .ret):=
 A2F (.inl rfl) (fun w _ a ha=>by rw[results_tmp2 hres,B0y (ha t v hv),B0y (ha u v' hv')]) hR
theorem F1{fn:Func}{R:Ending→World→Prop}(hres:fn.results=#[])
 (hR:∀w,St B m H w→R (.returned (.tuple #[])) w):WK N B m H σ (L8 P fn R .ret):=
 A2F (.inl rfl) (fun _ _ _ _=>results_none hres _ _ _) hR
theorem D9{fn:Func}{R:Ending→World→Prop}(hres:fn.results=#[])
 (hR:∀w,St B m H w→R (.returned (.tuple #[])) w):WK N B m H σ (L8 P fn R .normal):=
 A2F (.inr rfl) (fun _ _ _ _=>results_none hres _ _ _) hR
end
end Go.Kx
