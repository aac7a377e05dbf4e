import Derived.Orders
import Derived.Tactics
import Derived.Scope
import Derived.OrdersIn
import Derived.TacticsIn
import Derived.RangeFuncLeaves
import Derived.RangeFuncFrom
set_option linter.all false
namespace Go.Kx
abbrev A':=@if_neg
abbrev D':=@if_pos
abbrev EF:=@Nat.zero_le
abbrev E':=@Nat.le_refl
abbrev F':=@List.length_append
abbrev I':=@List.length_set
abbrev J':=@Nat.le_of_ble_eq_true
abbrev N':=@List.length_cons
abbrev O':=@Nat.zero_lt_succ
abbrev P':=@List.length_nil
abbrev R':=@Nat.not_lt_zero
abbrev Sa:=@List.mem_append
abbrev Sb:=@Nat.add_mul
abbrev Sc:=@Nat.lt_succ_iff_lt_or_eq
abbrev Sd:=@congrArg
abbrev Se:=@List.append_assoc
abbrev Sf:=@List.mem_cons_self
abbrev Sg:=@List.mem_cons_of_mem
abbrev Sh:=@List.mem_map
abbrev Si:=@Int.le_refl
abbrev Sj:=@Classical.byContradiction
abbrev Sk:=@List.mem_append_left
abbrev Sm:=@List.getElem?_eq_none
abbrev Sn:=@List.mem_cons
abbrev So:=@List.perm_middle
abbrev Sp:=@List.mem_singleton
abbrev Sq:=@List.getElem?_eq_some_iff
abbrev Sr:=@List.length_take
abbrev Ss:=@List.nodup_append
abbrev Su:=@Decidable.of_not_not
abbrev Sv:=@of_decide_eq_true
abbrev Sw:=@Nat.mul_le_mul_right
abbrev Sx:=@List.mem_append_right
abbrev Sy:=@List.getElem?_eq_getElem
abbrev Sz:=@Nat.le_trans
abbrev SA:=@Array.getElem?_eq_some_iff
abbrev SC:=@Nat.zero_add
abbrev SD:=@Nat.mul_one
abbrev SE:=@List.length_drop
abbrev SF:=@decide_eq_true
abbrev SG:=@List.ext_getElem?
abbrev SH:=@Array.getD_eq_getD_getElem?
abbrev SI:=@List.getElem?_take
abbrev SJ:=@Nat.one_mul
abbrev SK:=@List.getElem?_append_left
abbrev SL:=@List.getElem?_append_right
abbrev SM:=@List.cons_append
abbrev SN:=@Bool.and_eq_true
abbrev SO:=@List.append_nil
abbrev SQ:=@Nat.min_eq_left
abbrev SR:=@List.getElem?_set
abbrev SS:=@List.mem_range
abbrev SU:=@Nat.zero_mul
abbrev SV:=@List.drop_eq_nil_of_le
abbrev SW:=@List.cons_ne_nil
abbrev SX:=@Nat.add_assoc
abbrev SY:=@Nat.sub_self
abbrev SZ:=@List.replicate_succ
abbrev Ta:=@List.mem_of_getElem?
abbrev Tb:=@Nat.lt_irrefl
abbrev Tc:=@Array.length_toList
abbrev Td:=@List.not_mem_nil
abbrev Te:=@Array.toList_modify
abbrev Tf:=@List.length_replicate
abbrev Tg:=@decide_eq_false
abbrev Th:=@of_decide_eq_false
abbrev Ti:=@List.flatMap_cons
abbrev Tj:=@List.eq_nil_of_length_eq_zero
abbrev Tk:=@List.take_of_length_le
abbrev Tl:=@List.getElem?_drop
abbrev Tm:=@List.Sublist.refl
abbrev Tn:=@Nat.not_lt
abbrev Tp:=@List.all_eq_true
abbrev Tq:=@List.sublist_cons_self
abbrev Tr:=@Array.foldl_toList
abbrev Ts:=@Nat.sub_zero
abbrev Tt:=@List.drop_eq_getElem_cons
abbrev Tu:=@Nat.succ_le_succ
abbrev Tv:=@List.perm_append_comm
abbrev Tw:=@Bool.or_eq_true
abbrev Tx:=@List.getD_eq_getElem?_getD
abbrev Ty:=@Option.map_some
abbrev Tz:=@Option.bind_some
abbrev TB:=@Nat.add_zero
abbrev TC:=@List.take_left
abbrev TE:=@List.set_cons_succ
abbrev TG:=@Nat.lt_or_eq_of_le
abbrev TH:=@Nat.succ_mul
abbrev TI:=@Int.not_lt
abbrev TJ:=@Nat.lt_of_lt_of_le
abbrev TK:=@Nat.ne_of_lt
abbrev TL:=@List.Perm.append_right
abbrev TM:=@Nat.eq_zero_or_pos
abbrev TN:=@Int.mul_le_mul_of_nonneg_right
abbrev TO:=@Array.toList_zip
abbrev TP:=@Nat.mul_pos
abbrev TQ:=@List.mem_of_mem_take
abbrev TR:=@List.mem_iff_getElem?
abbrev TV:=@List.length_reverse
abbrev TW:=@Int.le_of_lt
abbrev TX:=@Int.le_trans
abbrev TY:=@Int.ediv_le_ediv
abbrev TZ:=@Int.ediv_nonneg
abbrev Ua:=@List.set_eq_take_append_cons_drop
abbrev Ub:=@List.size_toArray
abbrev Uc:=@List.nil_append
abbrev Ud:=@Nat.le_mul_of_pos_right
abbrev Ue:=@List.getElem?_append
abbrev Uf:=@Nat.add_sub_cancel_left
abbrev Ug:=@List.take_append_of_le_length
abbrev Uh:=@List.drop_drop
abbrev Ui:=@Int.toNat_natCast
abbrev Uj:=@List.take_append_drop
abbrev Uk:=@List.mem_or_eq_of_mem_set
abbrev Ul:=@List.drop_zero
abbrev Um:=@List.length_map
abbrev Un:=@List.take_length
abbrev Uo:=@Array.getElem?_push
abbrev Up:=@List.foldr_cons
abbrev Uq:=@Option.getD_some
abbrev Ur:=@Array.getElem?_eq_getElem
abbrev Us:=@Array.size_append
abbrev Ut:=@Array.toList_append
abbrev Uu:=@List.singleton_append
abbrev Uv:=@Option.some.inj
abbrev Uw:=@Array.getElem?_toList
abbrev Ux:=@List.getElem?_reverse
abbrev Uy:=@List.getElem?_cons_succ
abbrev Uz:=@and_congr_right
abbrev UA:=@Array.getElem?_setIfInBounds_ne
abbrev UB:=@List.sublist_append_left
abbrev UC:=@List.take_succ_eq_append_getElem
abbrev UD:=@List.Sublist.append_left
abbrev UE:=@List.drop_of_length_le
abbrev UF:=@Int.fdiv_eq_ediv_of_nonneg
abbrev UG:=@List.length_eq_zero_iff
abbrev UH:=@Int.mul_ediv_cancel_left
abbrev UI:=@List.set_append_right
abbrev B6:=List (Nat×Value)
abbrev J(x:Int):Value:=.int .i64 x
abbrev Pt(b k:Nat):Value:=.pointer (some ⟨b,k,none⟩)
abbrev Fc(f:Nat):Value:=.func (.func f) #[] #[]
abbrev S0:Value:=.slice none 0 0
def lk:B6→Nat→Option Value
 | [],_=>none
 |(k,v)::r,t=>match Nat.beq k t with
  |true=>some v
  |false=>lk r t
def ev(σ:B6):Operand→Option Value
 | .tmp t=>lk σ t
 | .const v=>some v
 | .global g=>some (.pointer (some ⟨g,0,none⟩))
 | .func f=>some (.func (.func f) #[] #[])
def T4(σ:B6)(x:Operand):Value:=(ev σ x).getD undef
def mk(D:Nat):Deferred:={target:=.collected D,args:=#[]}
structure Env(N:Nat)(Ds:List Nat)(σ:B6)(a:Act):Prop where
 defers:a.defers=Ds.map mk
 size:a.tmps.size=N
 get:∀t v,lk σ t=some v→a.tmps[t]?=some v
theorem Bf(t:Nat)(v:Value)(σ:B6):lk ((t,v)::σ) t=some v:=by simp[lk]
theorem BU{t u:Nat}(v:Value)(σ:B6)(h:t≠u):lk ((t,v)::σ) u=lk σ u:=by
 simp only[lk]
 have:Nat.beq t u=false:=by
  cases hb:Nat.beq t u with
  |false=>rfl
  |true=>exact absurd (Nat.eq_of_beq_eq_true hb) h
 rw[this]
theorem Env.put{N:Nat}{Ds:List Nat}{σ:B6}{a:Act}(h:Env N Ds σ a){d:Nat}(hd:d<N)(v:Value):Env N Ds ((d,v)::σ) (a.put (some d) v):=by
 refine⟨h.defers,by simp[Act.put,h.size],?_⟩
 intro t u b
 by_cases e:d=t
 ·subst e
  rw[Bf]at b
  cases b
  simp[Act.put,h.size,hd]
 ·rw[BU _ _ e]at b
  simp[Act.put,UA e,h.get t u b]
theorem Env.eval{N:Nat}{Ds:List Nat}{σ:B6}{a:Act}(h:Env N Ds σ a){x:Operand}{v:Value}(hx:ev σ x=some v):a.eval x=v:=by
 cases x with
 |tmp t=>simp only[ev]at hx;simp[Act.eval,h.get t v hx]
 |const c=>simp only[ev]at hx;cases hx;rfl
 |global g=>simp only[ev]at hx;cases hx;rfl
 |func f=>simp only[ev]at hx;cases hx;rfl
def Sub:B6→B6→Prop
 | [],_=>True
 |(k,v)::r,σ=>lk σ k=some v∧Sub r σ
theorem Sub.nil{σ:B6}:Sub [] σ:=trivial
theorem Sub.cons{k:Nat}{v:Value}{r σ:B6}(h:lk σ k=some v)(hr:Sub r σ):Sub ((k,v)::r) σ:=⟨h,hr⟩
theorem Sub.lk{σ:B6}:∀{σ':B6},Sub σ' σ→∀t v,lk σ' t=some v→lk σ t=some v
 | [],_,t,v,h=>by simp[Kx.lk]at h
 |p::r,hs,t,v,h=>by
  by_cases e:p.1=t
  ·subst e
   have:p=(p.1,p.2):=rfl
   rw[this,Bf]at h
   cases h
   exact hs.1
  ·have:p=(p.1,p.2):=rfl
   rw[this,BU _ _ e]at h
   exact Sub.lk hs.2 t v h
theorem Env.weaken{N:Nat}{Ds:List Nat}{σ σ':B6}{a:Act}(h:Env N Ds σ a)(hs:Sub σ' σ):Env N Ds σ' a:=
 ⟨h.defers,h.size,fun t v b=>h.get t v (hs.lk t v b)⟩
structure Ext(w w':World):Prop where
 os:w'.os=w.os
 tape:w'.tape=w.tape
 output:w'.output=w.output
 size:w.heap.size≤w'.heap.size
 block:∀b,b<w.heap.size→w'.heap[b]?=w.heap[b]?
theorem Ext.refl(w:World):Ext w w:=⟨rfl,rfl,rfl,E' _,fun _ _=>rfl⟩
theorem Ext.trans{w w1 w2:World}(h:Ext w w1)(h':Ext w1 w2):Ext w w2:=
 ⟨h'.os.trans h.os,h'.tape.trans h.tape,h'.output.trans h.output,Sz h.size h'.size,
  fun b a=>(h'.block b (TJ a h.size)).trans (h.block b a)⟩
theorem Ext.alloc(w:World)(o:Obj):Ext w (w.alloc o):=
 ⟨rfl,rfl,rfl,by simp,fun b a=>by show(w.heap.push o)[b]?=_;rw[Uo,A' (TK a)]⟩
theorem Ext.drew(w:World):Ext w w.drew:=⟨rfl,rfl,rfl,E' _,fun _ _=>rfl⟩
abbrev Mem:=Nat→Option Obj
def Mem.le(m m':Mem):Prop:=∀b o,m b=some o→m' b=some o
def Mem.sub(m:Mem)(w:World):Prop:=∀b o,m b=some o→w.heap[b]?=some o
theorem Mem.le_refl(m:Mem):m.le m:=fun _ _ h=>h
theorem Mem.le_trans{a b c:Mem}(h:a.le b)(h':b.le c):a.le c:=fun x o d=>h' x o (h x o d)
theorem Mem.sub.lt{m:Mem}{w:World}(h:m.sub w){b:Nat}{o:Obj}(hb:m b=some o):b<w.heap.size:=
 (SA.1 (h b o hb)).1
theorem Mem.sub.ext{m:Mem}{w w':World}(h:m.sub w)(he:Ext w w'):m.sub w':=fun b o a=>(he.block b (h.lt a)).trans (h b o a)
def Mem.put(m:Mem)(b:Nat)(o:Obj):Mem:=fun x=>if x=b then some o else m x
def Mem.all(w:World):Mem:=fun b=>w.heap[b]?
structure Ent where
 ids:List Nat
 holds:World→Prop
 loc:∀w w':World,(∀b∈ids,w'.heap[b]?=w.heap[b]?)→holds w→holds w'
 bound:∀w,holds w→∀b∈ids,b<w.heap.size
def B8:List Ent→List Nat
 | []=>[]
 |e::H=>e.ids++B8 H
theorem BO{H:List Ent}{e:Ent}(he:e∈H){b:Nat}(hb:b∈e.ids):b∈B8 H:=by
 induction H with
 |nil=>cases he
 |cons x H ih=>
  simp only[B8,Sa]
  cases he with
  |head=>exact .inl hb
  |tail _ h=>exact .inr (ih h)
theorem E5(A B:List Ent):B8 (A++B)=B8 A++B8 B:=by
 induction A with
 |nil=>rfl
 |cons x A ih=>simp[B8,ih]
theorem EN{H:List Ent}{b:Nat}:b∈B8 H↔∃e∈H,b∈e.ids:=by
 induction H with
 |nil=>simp[B8]
 |cons x H ih=>simp[B8,ih]
structure Base where
 w:World
 X:List Nat
 m:Mem
structure St(B:Base)(m:Mem)(H:List Ent)(w:World):Prop where
 os:w.os=B.w.os
 tape:w.tape=B.w.tape
 output:w.output=B.w.output
 size:B.w.heap.size≤w.heap.size
 base:∀b,b<B.w.heap.size→b ∉ B.X→w.heap[b]?=B.w.heap[b]?
 sub:m.sub w
 le:B.m.le m
 new:∀b,b<B.w.heap.size→m b=B.m b
 own:∀e∈H,e.holds w
 ids:∀b∈B8 H,b∈B.X∨B.w.heap.size≤b
 avoid:∀b∈B8 H,m b=none
 nodup:(B8 H).Nodup
theorem St.start(w:World)(m:Mem)(h:m.sub w):St ⟨w,[],m⟩ m [] w:=
 ⟨rfl,rfl,rfl,E' _,fun _ _ _=>rfl,h,Mem.le_refl _,fun _ _=>rfl,by simp,by simp[B8],by simp[B8],by simp[B8]⟩
theorem St.lt{B:Base}{m:Mem}{H:List Ent}{w:World}(h:St B m H w){b:Nat}(hb:b∈B8 H):b<w.heap.size:=by
 obtain⟨e,c,a⟩:=EN.1 hb
 exact e.bound w (h.own e c) b a
theorem St.ext{B:Base}{m:Mem}{H:List Ent}{w w':World}(h:St B m H w)(he:Ext w w'):St B m H w' where
 os:=he.os.trans h.os
 tape:=he.tape.trans h.tape
 output:=he.output.trans h.output
 size:=Sz h.size he.size
 base b a hx:=(he.block b (TJ a h.size)).trans (h.base b a hx)
 sub:=h.sub.ext he
 le:=h.le
 new:=h.new
 own e hm:=e.loc w w' (fun b a=>he.block b (e.bound w (h.own e hm) b a)) (h.own e hm)
 ids:=h.ids
 avoid:=h.avoid
 nodup:=h.nodup
theorem St.weaken{B:Base}{m:Mem}{H H':List Ent}{w:World}(h:St B m H w)(hs:H'.Sublist H):St B m H' w:=by
 have c:(B8 H').Sublist (B8 H):=by
  clear h
  induction hs with
  |slnil=>exact Tm _
  |cons a _ ih=>exact ih.trans (List.sublist_append_right _ _)
  |cons_cons a _ ih=>exact List.Sublist.append (Tm _) ih
 exact{h with
  own:=fun e f=>h.own e (hs.subset f)
  ids:=fun b d=>h.ids b (c.subset d)
  avoid:=fun b d=>h.avoid b (c.subset d)
  nodup:=h.nodup.sublist c}
theorem St.perm{B:Base}{m:Mem}{H H':List Ent}{w:World}(h:St B m H w)(hp:H'.Perm H):St B m H' w:=by
 have c:(B8 H').Perm (B8 H):=by
  clear h
  induction hp with
  |nil=>exact List.Perm.refl _
  |cons a _ ih=>exact ih.append_left _
  |swap a b l=>simp only[B8];rw[←Se,←Se];exact TL _ Tv
  |trans _ _ ih1 ih2=>exact ih1.trans ih2
 exact{h with
  own:=fun e f=>h.own e (hp.mem_iff.1 f)
  ids:=fun b d=>h.ids b (c.mem_iff.1 d)
  avoid:=fun b d=>h.avoid b (c.mem_iff.1 d)
  nodup:=c.nodup_iff.2 h.nodup}
theorem St.push{B:Base}{m:Mem}{H:List Ent}{w w':World}(h:St B m H w)(he:Ext w w')(E:Ent)(hE:E.holds w')
 (hnew:∀b∈E.ids,w.heap.size≤b) (hnd:E.ids.Nodup):St B m (E::H) w':=by
 have f:=h.ext he
 refine{f with own:=?_,ids:=?_,avoid:=?_,nodup:=?_}
 ·intro e d
  cases d with
  |head=>exact hE
  |tail _ d=>exact f.own e d
 ·intro b a
  simp only[B8,Sa]at a
  rcases a with a|a
  ·exact .inr (Sz h.size (hnew b a))
  ·exact f.ids b a
 ·intro b a
  simp only[B8,Sa]at a
  rcases a with a|a
  ·cases d:m b with
   |none=>rfl
   |some o=>exact absurd (h.sub.lt d) (Tn.2 (hnew b a))
  ·exact f.avoid b a
 ·simp only[B8]
  refine Ss.2 ⟨hnd,h.nodup,?_⟩
  intro b a c k g
  subst g
  exact absurd (h.lt k) (Tn.2 (hnew b a))
theorem St.freshMem{B:Base}{m:Mem}{H:List Ent}{w:World}(h:St B m H w)(o:Obj):
 St B (m.put w.heap.size o) H (w.alloc o)∧m.le (m.put w.heap.size o):=by
 have f:=h.ext (Ext.alloc w o)
 have d:m w.heap.size=none:=by
  cases hm:m w.heap.size with
  |none=>rfl
  |some o'=>exact absurd (h.sub.lt hm) (Tb _)
 have c:m.le (m.put w.heap.size o):=fun b x a=>by
  have:b≠w.heap.size:=fun e=>by rw[e,d]at a;cases a
  simp[Mem.put,this,a]
 refine⟨{f with sub:=?_,le:=Mem.le_trans h.le c,new:=?_,avoid:=?_},c⟩
 ·intro b x a
  by_cases e:b=w.heap.size
  ·subst e;simp[Mem.put]at a;subst a;show(w.heap.push o)[_]?=_;simp
  ·simp only[Mem.put,e,if_false]at a;exact f.sub b x a
 ·intro b a
  have:b≠w.heap.size:=TK (TJ a h.size)
  simp[Mem.put,this,h.new b a]
 ·intro b a
  have:b≠w.heap.size:=TK (h.lt a)
  simp[Mem.put,this,h.avoid b a]
def Ret(B:Base)(Q:Mem→List Ent→Value→Prop)(e:Ending)(w':World):Prop:=∃v m' H',e= .returned v∧St B m' H' w'∧Q m' H' v
def Pure(P:Program)(f:FuncId)(args:Array Value)(m:Mem)(Q:Mem→Value→Prop):Prop:=
 ∀w,m.sub w→Calls P f args w (Ret ⟨w,[],m⟩ fun m' _ v=>Q m' v)
def Exact(P:Program)(f:FuncId)(args:Array Value)(m:Mem)(v:Value):Prop:=Pure P f args m fun _ U=>U=v
def Mut(P:Program)(f:FuncId)(args:Array Value)(m:Mem)(Es:List Ent)(Q:Mem→List Ent→Value→Prop):Prop:=
 ∀w,St ⟨w,B8 Es,m⟩ m Es w→Calls P f args w (Ret ⟨w,B8 Es,m⟩ Q)
theorem Pure.mono{P:Program}{f:FuncId}{args:Array Value}{m:Mem}{Q Q':Mem→Value→Prop}(h:Pure P f args m Q)(hq:∀m' v,m.le m'→Q m' v→Q' m' v):
 Pure P f args m Q':=
 fun w b=>(h w b).mono fun _ _ ⟨v,m',H',c,a,q⟩=>⟨v,m',H',c,a,hq _ _ a.le q⟩
theorem Ret.ext{B:Base}{Q:Mem→List Ent→Value→Prop}{e:Ending}{w':World}(h:Ret B Q e w')(hX:B.X=[]):Ext B.w w':=by
 obtain⟨v,m',H',_,a,_⟩:=h
 exact⟨a.os,a.tape,a.output,a.size,fun b c=>a.base b c (by simp[hX])⟩
theorem St.called{B:Base}{m m':Mem}{H H':List Ent}{w w':World}(h:St B m H w)(h':St ⟨w,[],m⟩ m' H' w'):St B m' H w':=by
 have c:Ext w w':=⟨h'.os,h'.tape,h'.output,h'.size,fun b a=>h'.base b a (by simp)⟩
 have d:=h.ext c
 refine{d with sub:=h'.sub,le:=Mem.le_trans h.le h'.le,new:=?_,avoid:=?_}
 ·intro b a
  rw[h'.new b (TJ a h.size)]
  exact h.new b a
 ·intro b a
  rw[h'.new b (h.lt a)]
  exact h.avoid b a
theorem St.handed{B:Base}{m m':Mem}{Es Es' R:List Ent}{w w':World}(h:St B m (Es++R) w)(h':St ⟨w,B8 Es,m⟩ m' Es' w'):St B m' (Es'++R) w':=by
 have n:(B8 Es++B8 R).Nodup:=by rw[←E5];exact h.nodup
 have g:∀b∈B8 Es,∀c∈B8 R,b≠c:=(Ss.1 n).2.2
 have d:∀b∈B8 R,b<w.heap.size:=fun b a=>h.lt (by rw[E5];exact Sx _ a)
 have t:∀b∈B8 Es,b<w.heap.size:=fun b a=>h.lt (by rw[E5];exact Sk _ a)
 have f:∀b∈B8 R,w'.heap[b]?=w.heap[b]?:=fun b a=>h'.base b (d b a) (fun p=>g b p b a rfl)
 have k:∀b∈B8 Es',b∈B8 Es∨w.heap.size≤b:=h'.ids
 have o:∀b∈B8 Es,b∈B.X∨B.w.heap.size≤b:=fun b a=>h.ids b (by rw[E5];exact Sk _ a)
 refine⟨h'.os.trans h.os,h'.tape.trans h.tape,h'.output.trans h.output,Sz h.size h'.size,?_,h'.sub,Mem.le_trans h.le h'.le,?_,?_,?_,?_,?_⟩
 ·intro b a p
  have r:b<w.heap.size:=TJ a h.size
  rw[h'.base b r (fun q=>by rcases o b q with h1|h1;exact p h1;exact absurd a (Tn.2 h1))]
  exact h.base b a p
 ·intro b a
  rw[h'.new b (TJ a h.size)]
  exact h.new b a
 ·intro e l
  rcases Sa.1 l with l|l
  ·exact h'.own e l
  ·exact e.loc w w' (fun b a=>f b (BO l a)) (h.own e (Sx _ l))
 ·intro b a
  rw[E5,Sa]at a
  rcases a with a|a
  ·rcases k b a with h1|h1
   ·exact o b h1
   ·exact .inr (Sz h.size h1)
  ·exact h.ids b (by rw[E5];exact Sx _ a)
 ·intro b a
  rw[E5,Sa]at a
  rcases a with a|a
  ·exact h'.avoid b a
  ·rw[h'.new b (d b a)]
   exact h.avoid b (by rw[E5];exact Sx _ a)
 ·rw[E5]
  refine Ss.2 ⟨h'.nodup,(Ss.1 n).2.1,?_⟩
  intro b a c u s
  subst s
  rcases k b a with h1|h1
  ·exact g b h1 b u rfl
  ·exact absurd (d b u) (Tn.2 h1)
def F0(b:Nat)(o:Obj):Ent where
 ids:=[b]
 holds w:=w.heap[b]?=some o
 loc w w' h hw:=by rw[h b (Sp.2 rfl)];exact hw
 bound w hw b' hb:=by
  have:b'=b:=by simpa using hb
  subst this;exact(SA.1 hw).1
def marks(Ds:List Nat):List Ent:=Ds.map fun D=>F0 D (.deferred (some []))
theorem St.part{B:Base}{m:Mem}{Es R:List Ent}{w:World}(h:St B m (Es++R) w):St ⟨w,B8 Es,m⟩ m Es w:=by
 refine⟨rfl,rfl,rfl,E' _,fun _ _ _=>rfl,h.sub,Mem.le_refl _,fun _ _=>rfl,fun e c=>h.own e (Sk _ c),fun b a=>.inl a,
  fun b a=>h.avoid b (by rw[E5];exact Sk _ a),?_⟩
 have:=h.nodup;rw[E5]at this;exact(Ss.1 this).1
def notSel:Op→Prop
 | .select _ _=>False
 | .defer _=>False
 |_=>True
def Df:Option Nat→Fence
 |none=>Fence.wide
 |some r=>Fence.wide.inRound r
theorem BE(M:Option Nat)(f:FuncId):(Df M).fn f:=by cases M <;> trivial
theorem Dg(M:Option Nat):(Df M).depth=none:=by cases M <;> rfl
theorem Gt(M:Option Nat){n:Nat}{P:Program}{f:FuncId}{args:Array Value}{w:World}{R:Ending→World→Prop}(h:Calls P f args w R):CallsIn (Df M) n P f args w R:=by
 have:=(callsIn_wide (n:=n)).2 h
 cases M <;> exact this
theorem A6Z(M:Option Nat){n:Nat}{P:Program}{row:String}{args:Array Value}{w:World}{R:Value→World→Prop}(h:Rows P row args w R):RowsIn (Df M) n P row args w R:=by
 have:RowsIn Fence.wide n P row args w R:=fun c cs _=>by
  obtain⟨v,w',r,s⟩:=h c cs
  exact⟨v,w',r,stepsIn_wide.2 s⟩
 cases M <;> exact this
theorem Q6(M:Option Nat){P:Program}{o:Oper}{a:Act}{next:Act→World→Prop}{Q:Exit→Act→World→Prop}:∀{r:Result Next},o.upon P a next Q r→o.uponIn (Df M) 0 P a next Q r
 | .ok x w',h=>by
  cases x <;> simp only[Oper.upon,Oper.uponIn]at h⊢ <;>
   first
    |exact h
    |exact⟨by simp[Dg],Gt M h⟩
    |exact⟨by simp[Dg],A6Z M h⟩
 | .halt x w',h=>by cases x <;> simp only[Oper.upon,Oper.uponIn]at h⊢ <;> exact h
theorem notSel.def{op:Op}(h:notSel op):∀c,op≠ .defer c:=by intro c e;rw[e]at h;exact h
def defd(σ:B6)(op:Op):Prop:=∀x∈op.operands,∃v,ev σ x=some v
structure OpX(P:Program)(B:Base)(m:Mem)(H:List Ent)(σ:B6)(op:Op)(ty:TypeId)(V:Value):Prop where
 sel:notSel op
 defd:defd σ op
 run:∀w,St B m H w→∀(o:Oper) (a:Act) (next:Act→World→Prop) (Q:Exit→Act→World→Prop),o.op=op→o.type=ty→
  (∀w',Ext w w'→next (a.put o.dst V) w')→o.upon P a next Q ((execOp (T4 σ) o).run P w)
structure OpTo(P:Program)(B:Base)(m:Mem)(H:List Ent)(σ:B6)(op:Op)(ty:TypeId)(T:Value→Mem→List Ent→Prop):Prop where
 sel:notSel op
 defd:defd σ op
 run:∀(M:Option Nat) (B:Base) w,St B m H w→∀(o:Oper) (a:Act) (next:Act→World→Prop) (Q:Exit→Act→World→Prop),o.op=op→o.type=ty→
  (∀v m' H' w',T v m' H'→St B m' H' w'→next (a.put o.dst v) w')→o.uponIn (Df M) 0 P a next Q ((execOp (T4 σ) o).run P w)
theorem OpTo.frame{P:Program}{B:Base}{m:Mem}{H R:List Ent}{σ:B6}{op:Op}{ty:TypeId}{T:Value→Mem→List Ent→Prop}(h:OpTo P B m H σ op ty T):
 OpTo P B m (H++R) σ op ty (fun v m' H''=>∃H',T v m' H'∧H''=H'++R):=
 ⟨h.sel,h.defd,fun M B w c o a next Q d f k=>by
  have b:St ⟨w,B8 H,m⟩ m H w:=c.part
  exact h.run M _ w b o a next Q d f fun v m' H' w' g l=>k v m' _ w' ⟨H',g,rfl⟩ (c.handed l)⟩
theorem OpX.frame{P:Program}{B:Base}{m:Mem}{H R:List Ent}{σ:B6}{op:Op}{ty:TypeId}{V:Value}(h:OpX P B m H σ op ty V):OpX P B m (H++R) σ op ty V:=
 ⟨h.sel,h.defd,fun w a=>h.run w (a.weaken (UB _ _))⟩
def WL(M:Option Nat)(P:Program)(N:Nat)(ops:Array Oper)(Q:Exit→Act→World→Prop)(B:Base)(m:Mem)(H:List Ent)(σ:B6)(l:List Oper):Prop:=
 ∀Ds w,St B m (H++marks Ds) w→∀a,Env N Ds σ a→wpListIn (Df M) 0 P ops Q l a w
def WK(N:Nat)(B:Base)(m:Mem)(H:List Ent)(σ:B6)(K:Act→World→Prop):Prop:=
 ∀Ds w,St B m (H++marks Ds) w→∀a,Env N Ds σ a→K a w
abbrev WC(M:Option Nat)(P:Program)(N:Nat)(Q:Exit→Act→World→Prop)(B:Base)(m:Mem)(H:List Ent)(σ:B6)(c:Code):Prop:=
 WK N B m H σ (c.wpIn (Df M) 0 P Q)
theorem JD{N:Nat}{Ds:List Nat}{σ:B6}{a:Act}(ha:Env N Ds σ a)(o:Oper)(hs:notSel o.op)(hd:defd σ o.op):execOp a.eval o=execOp (T4 σ) o:=
 execOp_congr o (fun cs b e=>by rw[e]at hs;exact hs) fun x d=>by
  obtain⟨v,c⟩:=hd x d
  rw[ha.eval c]
  simp[T4,c]
section
variable{M:Option Nat}{P:Program}{N:Nat}{ops:Array Oper}{Q:Exit→Act→World→Prop}{B:Base}{m:Mem}{H:List Ent}{σ:B6}{rest:List Oper}
 {d:Nat} {op:Op} {ty:TypeId} {pos:String} {after:Array Edge}
theorem WL.nil(h:WK N B m H σ (Q .normal)):WL M P N ops Q B m H σ []:=h
theorem WL.to{T:Value→Mem→List Ent→Prop}(h:OpTo P B m H σ op ty T)(hd:d<N)
 (k:∀v m' H',T v m' H'→WL M P N ops Q B m' H' ((d,v)::σ) rest):WL M P N ops Q B m H σ (⟨some d,op,ty,pos,after,none⟩::rest):=by
 intro Ds w n a b
 unfold wpListIn
 rw[D' (by simp[Region.wanted])]
 refine⟨fun f _=>BE M f,?_⟩
 rw[Oper.semAt_eq _ _ _ h.sel.def,JD b _ h.sel h.defd]
 exact h.frame.run M _ w n _ a _ Q rfl rfl fun v m' H'' w' ⟨H',c,g⟩ l=>k v m' H' c Ds w' (g▸l) _ (b.put hd v)
theorem A0H{T:Value→Mem→List Ent→Prop}(h:OpTo P B m H σ op ty T)
 (k:∀v m' H',T v m' H'→WL M P N ops Q B m' H' σ rest):WL M P N ops Q B m H σ (⟨none,op,ty,pos,after,none⟩::rest):=by
 intro Ds w l a b
 unfold wpListIn
 rw[D' (by simp[Region.wanted])]
 refine⟨fun f _=>BE M f,?_⟩
 rw[Oper.semAt_eq _ _ _ h.sel.def,JD b _ h.sel h.defd]
 exact h.frame.run M _ w l _ a _ Q rfl rfl fun v m' H'' w' ⟨H',c,d⟩ g=>k v m' H' c Ds w' (d▸g) a b
theorem WL.x{V:Value}(h:OpX P B m H σ op ty V)(hd:d<N)(k:WL M P N ops Q B m H ((d,V)::σ) rest):
 WL M P N ops Q B m H σ (⟨some d,op,ty,pos,after,none⟩::rest):=by
 intro Ds w b a c
 unfold wpListIn
 rw[D' (by simp[Region.wanted])]
 refine⟨fun f _=>BE M f,?_⟩
 rw[Oper.semAt_eq _ _ _ h.sel.def,JD c _ h.sel h.defd]
 exact Q6 M (h.frame.run w b _ a _ Q rfl rfl fun w' g=>k Ds w' (b.ext g) _ (c.put hd V))
theorem WL.yes{dst:Option Nat}{j t:Nat}{b:Bool}(hj:(ops[j]?).bind (·.dst)=some t)(ht:lk σ t=some (.bool b))
 (k:WL M P N ops Q B m H σ (⟨dst,op,ty,pos,after,none⟩::rest)):WL M P N ops Q B m H σ (⟨dst,op,ty,pos,after,some (j,b)⟩::rest):=by
 intro Ds w f a d
 have c:=k Ds w f a d
 unfold wpListIn at c⊢
 rw[D' (by simp[Region.wanted])]at c
 rw[D' (by simp[Region.wanted,yielded,hj,d.get t _ ht])]
 exact c
theorem WL.no{j t:Nat}{b c:Bool}(hj:(ops[j]?).bind (·.dst)=some t)(ht:lk σ t=some (.bool c))(hbc:b= !c)(hd:d<N)
 (k:WL M P N ops Q B m H ((d,undef)::σ) rest):WL M P N ops Q B m H σ (⟨some d,op,ty,pos,after,some (j,b)⟩::rest):=by
 intro Ds w l a g
 unfold wpListIn
 rw[A' (by subst hbc;cases c <;> simp[Region.wanted,yielded,hj,g.get t _ ht])]
 exact⟨fun f _=>BE M f,k Ds w l _ (g.put hd undef)⟩
theorem B3t{j t:Nat}{b:Bool}(hj:(ops[j]?).bind (·.dst)=some t)(ht:lk σ t=some undef)(hd:d<N)
 (k:WL M P N ops Q B m H ((d,undef)::σ) rest):WL M P N ops Q B m H σ (⟨some d,op,ty,pos,after,some (j,b)⟩::rest):=by
 intro Ds w g a c
 unfold wpListIn
 rw[A' (by simp[Region.wanted,yielded,hj,c.get t _ ht,undef])]
 exact⟨fun f _=>BE M f,k Ds w g _ (c.put hd undef)⟩
theorem WK.split{K:Act→World→Prop}{t:Nat}{p:Prop}[Decidable p](ht:lk σ t=some (.bool (decide p)))
 (hy:p→WK N B m H ((t,.bool true)::σ) K) (hn:¬p→WK N B m H ((t,.bool false)::σ) K):WK N B m H σ K:=by
 intro Ds w g a d
 have key:∀b:Bool,lk σ t=some (.bool b)→Env N Ds ((t,.bool b)::σ) a:=fun b k=>
  ⟨d.defers,d.size,fun u v c=>by
   by_cases e:t=u
   ·subst e;rw[Bf]at c;cases c;exact d.get t _ k
   ·rw[BU _ _ e]at c;exact d.get u v c⟩
 by_cases f:p
 ·exact hy f Ds w g a (key true (by rw[ht,SF f]))
 ·exact hn f Ds w g a (key false (by rw[ht,Tg f]))
theorem WL.split{t:Nat}{p:Prop}[Decidable p]{l:List Oper}(ht:lk σ t=some (.bool (decide p)))
 (hy:p→WL M P N ops Q B m H ((t,.bool true)::σ) l) (hn:¬p→WL M P N ops Q B m H ((t,.bool false)::σ) l):WL M P N ops Q B m H σ l:=
 WK.split (K:=wpListIn (Df M) 0 P ops Q l) ht hy hn
theorem WC.region{id:Nat}{l:List Oper}(h:WL M P N l.toArray Q B m H σ l):WC M P N Q B m H σ (.region id l.toArray false):=
 fun Ds w b a c=>wpIn_region_lit (h Ds w b a c)
theorem WC.seq{x y:Code}(h:WC M P N (Exit.then (y.wpIn (Df M) 0 P Q) Q) B m H σ x):WC M P N Q B m H σ (.seq x y):=
 fun Ds w b a c=>wpIn_seq (h Ds w b a c)
theorem WC.skip(h:WK N B m H σ (Q .normal)):WC M P N Q B m H σ .skip:=fun Ds w b a c=>wpIn_skip (h Ds w b a c)
theorem WC.label{l:Nat}(h:WK N B m H σ (Q .normal)):WC M P N Q B m H σ (.label l):=fun Ds w b a c=>wpIn_label (h Ds w b a c)
theorem WC.block{id:Nat}{c:Code}(h:WC M P N (Exit.inBlock id Q) B m H σ c):WC M P N Q B m H σ (.block id c):=
 fun Ds w b a d=>wpIn_block (h Ds w b a d)
theorem WC.exit{id:Nat}(h:WK N B m H σ (Q (.exit id))):WC M P N Q B m H σ (.exit id):=fun Ds w b a c=>wpIn_exit (h Ds w b a c)
theorem WC.ret(h:WK N B m H σ (Q .ret)):WC M P N Q B m H σ .ret:=fun Ds w b a c=>wpIn_ret (h Ds w b a c)
theorem WC.cond{c:Operand}{x y:Code}{p:Prop}[Decidable p](hc:ev σ c=some (.bool (decide p)))
 (ht:p→WC M P N Q B m H σ x) (hf:¬p→WC M P N Q B m H σ y):WC M P N Q B m H σ (.cond c x y):=
 fun Ds w d a b=>wpIn_cond_split (t:=decide p) (b.eval hc) (fun e=>ht (Sv e) Ds w d a b) (fun e=>hf (Th e) Ds w d a b)
theorem L1{c:Operand}{x y:Code}{b:Bool}(hc:ev σ c=some (.bool b))
 (ht:b=true→WC M P N Q B m H σ x) (hf:b=false→WC M P N Q B m H σ y):WC M P N Q B m H σ (.cond c x y):=
 fun Ds w f a d=>wpIn_cond_split (t:=b) (d.eval hc) (fun e=>ht e Ds w f a d) (fun e=>hf e Ds w f a d)
theorem A7G{c:Operand}{x y:Code}(hc:ev σ c=some (.bool true))(ht:WC M P N Q B m H σ x):WC M P N Q B m H σ (.cond c x y):=
 fun Ds w d a b=>wpIn_cond_true (b.eval hc) (ht Ds w d a b)
theorem A8Z{c:Operand}{x y:Code}(hc:ev σ c=some (.bool false))(hf:WC M P N Q B m H σ y):WC M P N Q B m H σ (.cond c x y):=
 fun Ds w d a b=>wpIn_cond_false (b.eval hc) (hf Ds w d a b)
theorem WK.weaken{K:Act→World→Prop}{H':List Ent}{σ':B6}(hH:H'.Sublist H)(hσ:Sub σ' σ)(h:WK N B m H' σ' K):WK N B m H σ K:=
 fun Ds w b a c=>h Ds w (b.weaken (hH.append_right _)) a (c.weaken hσ)
theorem I8{K:Act→World→Prop}{σ':B6}(hσ:Sub σ' σ)(h:WK N B m H σ' K):WK N B m H σ K:=
 fun Ds w b a c=>h Ds w b a (c.weaken hσ)
theorem WC.loop{c:Code}{G:Type}(μ:G→Nat)(mG:G→Mem)(HG:G→List Ent)(σG:G→B6)(F:G→Prop)(g0:G)
 (hm0:m=mG g0) (hH0:(HG g0).Sublist H) (hσ0:Sub (σG g0) σ) (hF0:F g0)
 (round:∀g,F g→WC M P N (Exit.then (fun a w=>∃g' Ds',F g'∧μ g'<μ g∧St B (mG g') (HG g'++marks Ds') w∧Env N Ds' (σG g') a) Q) B (mG g) (HG g) (σG g) c):
 WC M P N Q B m H σ (.loop c):=by
 intro Ds w z a A b k cs u v y
 have key:∀n g Ds a w,μ g=n→F g→St B (mG g) (HG g++marks Ds) w→Env N Ds (σG g) a→
  ∃e a' w',Q e a' w'∧ArrivesIn (Machine.fenced P (Df M)) P (lone (b.atR a (.code c:: .inLoop c::k)) cs w) b k cs e a' w':=by
  intro n
  induction n using Nat.strongRecOn with
  |_ n ih=>
   intro g Ds a w C D E I
   obtain⟨e,a₁,w₁,f,d⟩:=round g D Ds w E a I b (.inLoop c::k) cs u v y
   cases e with
   |normal=>
    obtain⟨g',Ds',p,q,r,s⟩:=f
    obtain⟨e₂,a₂,w₂,t,o⟩:=ih (μ g') (C▸q) g' Ds' a₁ w₁ rfl p r s
    exact⟨e₂,a₂,w₂,t,.of_steps (StepsIn.trans d (.one (fenced_calm v y rfl) stepR_inLoop)) o⟩
   |exit id=>exact⟨_,a₁,w₁,f,.pass (x:=.inLoop c) rfl (fun _ _=>.inl (by simp)) d⟩
   |goto l=>exact⟨_,a₁,w₁,f,.pass (x:=.inLoop c) rfl (fun _ _=>.inl (by simp)) d⟩
   |ret=>exact⟨_,a₁,w₁,f,.pass (x:=.inLoop c) rfl (fun _ _=>.inl (by simp)) d⟩
   |panic ch=>exact⟨_,a₁,w₁,f,.pass (x:=.inLoop c) rfl (fun _ _=>.inl (by simp)) d⟩
   |outgrown=>exact⟨_,a₁,w₁,f,.pass (x:=.inLoop c) rfl (fun _ _=>.inl (by simp)) d⟩
 obtain⟨e,a',w',f,d⟩:=key _ g0 Ds a w rfl hF0 (hm0▸z.weaken (hH0.append_right _)) (A.weaken hσ0)
 exact⟨e,a',w',f,.of_steps (.one (fenced_calm v y rfl) stepR_loop) d⟩
theorem B2L{G:Type}{μ:G→Nat}{mG:G→Mem}{HG:G→List Ent}{σG:G→B6}{F:G→Prop}{n:Nat}(g':G)
 (hm:m=mG g') (hH:(HG g').Sublist H) (hσ:Sub (σG g') σ) (hF:F g') (hμ:μ g'<n):
 WK N B m H σ fun a w=>∃g' Ds',F g'∧μ g'<n∧St B (mG g') (HG g'++marks Ds') w∧Env N Ds' (σG g') a:=
 fun Ds _ b _ c=>⟨g',Ds,hF,hμ,hm▸b.weaken (hH.append_right _),c.weaken hσ⟩
theorem A4Q{P:Program}{w:World}{D:Nat}(h:w.heap[D]?=some (.deferred (some []))):(Instr.takeDeferred D).run P w= .ok [] (w.putObj D (.deferred none)):=run_takeDeferred h
theorem St.drop{B:Base}{m:Mem}{H:List Ent}{D:Nat}{R:List Ent}{w:World}(h:St B m (H++F0 D (.deferred (some []))::R) w):St B m (H++R) (w.putObj D (.deferred none)):=by
 have c:([F0 D (.deferred (some []))]++(H++R)).Perm (H++F0 D (.deferred (some []))::R):=by simpa using So.symm
 have g:=h.perm c
 have k:w.heap[D]?=some (.deferred (some [])):=h.own (F0 D _) (by simp)
 have l:D<w.heap.size:=(SA.1 k).1
 have a:∀b,b≠D→(w.putObj D (.deferred none)).heap[b]?=w.heap[b]?:=fun b d=>World.putObj_heap_other d
 have f:St ⟨w,B8 [F0 D (.deferred (some []))],m⟩ m [] (w.putObj D (.deferred none)):=by
  refine⟨rfl,rfl,rfl,by simp,?_,?_,Mem.le_refl _,fun _ _=>rfl,by simp,by simp[B8],by simp[B8],by simp[B8]⟩
  ·intro b _ d;exact a b (by simpa[B8,F0]using d)
  ·intro b o d
   rw[a b (fun e=>by
    have:=g.avoid D (by simp[B8,F0])
    rw[←e,d]at this;cases this)]
   exact h.sub b o d
 simpa using g.handed f
theorem Jh{P:Program}{fn:Func}{tmps:Array Value}{R:Ending→World→Prop}{B:Base}{m:Mem}{H:List Ent}:
 ∀(Ds:List Nat) (w:World),St B m (H++marks Ds) w→(∀w',St B m H w'→LeavesIn Fence.wide 0 P fn tmps R [] .returning w')→LeavesInM Fence.wide 0 P fn tmps R (Ds.map mk) .returning w
 | [],w,hw,h=>h w (by simpa[marks]using hw)
 |D::Ds,w,hw,h=>by
  refine⟨by simp,.inl ⟨D,_,rfl,A4Q (hw.own (F0 D _) (by simp[marks])),?_⟩⟩
  exact Jh Ds _ (by simpa[marks]using hw.drop) h
def N2(P:Program)(fn:Func)(R:Ending→World→Prop):Exit→Act→World→Prop:=bodyPostM Fence.wide 0 P fn R
theorem Calls.enter{f:FuncId}{fn:Func}{c:Code}{args:Array Value}{w:World}{R:Ending→World→Prop}{H0:List Ent}{σ0:B6}
 (hf:P.funcs[f]?=some fn) (hb:fn.body=some c) (hN:fn.ntmps=N) (hs:St B m H0 w) (hσ:∀t v,lk σ0 t=some v→args[t]?=some v) (hsz:args.size≤N)
 (h:WC none P N (N2 P fn R) B m H0 σ0 c):Calls P f args w R:=by
 refine(callsIn_wide (n:=0)).1 (callsIn_of_wp_marks hf hb trivial (h [] w (by simpa[marks]using hs) _ ⟨rfl,?_,?_⟩))
 ·simp;omega
 ·intro t v b
  have:=hσ t v b
  rw[Array.getElem?_append]
  have a:t<args.size:=(SA.1 this).1
  rw[D' a];exact this
theorem DC{fn:Func}{R:Ending→World→Prop}{v:Value}{e:Exit}(he:e= .ret∨e= .normal)
 (hres:∀w,St B m H w→∀a:Array Value,(∀t v,lk σ t=some v→a[t]?=some v)→(results fn a).run P w= .ok v w)
 (hR:∀w,St B m H w→R (.returned v) w):WK N B m H σ (N2 P fn R e):=by
 intro Ds w d a c
 have key:LeavesInM Fence.wide 0 P fn a.tmps R a.defers .returning w:=by
  rw[c.defers]
  exact Jh Ds w d fun w' b=>⟨v,hres w' b a.tmps c.get,hR w' b⟩
 rcases he with rfl|rfl <;> exact key
theorem Oo{a:Array Value}{t:Nat}{v:Value}(h:a[t]?=some v):a.getD t undef=v:=by rw[SH,h];rfl
theorem A0{fn:Func}{R:Ending→World→Prop}{t:Nat}{v:Value}(hres:fn.results=#[.tmp t])(hv:lk σ t=some v)
 (hR:∀w,St B m H w→R (.returned v) w):WK N B m H σ (N2 P fn R .ret):=
 DC (.inl rfl) (fun w _ a b=>by rw[results_tmp hres,Oo (b t v hv)]) hR
theorem B7{fn:Func}{R:Ending→World→Prop}{t u:Nat}{v U:Value}(hres:fn.results=#[.tmp t,.tmp u])(hv:lk σ t=some v)(hv':lk σ u=some U)
 (hR:∀w,St B m H w→R (.returned (.tuple #[v,U])) w):WK N B m H σ (N2 P fn R .ret):=
 DC (.inl rfl) (fun w _ a b=>by rw[results_tmp2 hres,Oo (b t v hv),Oo (b u U hv')]) hR
theorem E9{fn:Func}{R:Ending→World→Prop}(hres:fn.results=#[])
 (hR:∀w,St B m H w→R (.returned (.tuple #[])) w):WK N B m H σ (N2 P fn R .ret):=
 DC (.inl rfl) (fun _ _ _ _=>results_none hres _ _ _) hR
theorem D0{fn:Func}{R:Ending→World→Prop}(hres:fn.results=#[])
 (hR:∀w,St B m H w→R (.returned (.tuple #[])) w):WK N B m H σ (N2 P fn R .normal):=
 DC (.inr rfl) (fun _ _ _ _=>results_none hres _ _ _) hR
end
end Go.Kx
