import Derived.Test.YtooomcigmleneaaGreatKxA
set_option linter.all false
namespace Go.Kx
variable{H:List Ent}{L:Nat→Bool}{a:Act}{i:Nat}{listed:Array Bool}{m:Mem}{o:Oper}{t:Nat}{π:List Nat}{σ:B5}
def A9w(acc:List Nat)(o:Oper):Nat:=o.after.toList.foldr (fun e s=>if Region.binds .any e then(2^e.on ||| acc.getD e.on 0) ||| s else s) 0
def A5v:List Oper→List Nat→List Nat
 | [],acc=>acc
 |o::l,acc=>A5v l (acc++[A9w acc o])
def A2K(ops:Array Oper)(L:Nat→Bool)(i:Nat):Prop:=∀o,ops[i]?=some o→∀e∈o.after.toList,Region.binds .any e=true→L e.on=true
theorem C1m{acc:List Nat}(hacc:∀i j,(acc.getD i 0).testBit j=true→L i=true→L j=true)
 (ho:∀e∈o.after.toList,Region.binds .any e=true→L e.on=true) {j:Nat} (hj:(A9w acc o).testBit j=true):L j=true:=by
 unfold A9w at hj
 generalize o.after.toList=es at ho hj
 induction es with
 |nil=>simp at hj
 |cons e es ih=>
  simp only[List.foldr_cons]at hj
  split at hj
  ·rename_i hb
   have he:=ho e (List.mem_cons_self ..) hb
   rw[Nat.testBit_or,Nat.testBit_or]at hj
   simp only[Bool.or_eq_true]at hj
   rcases hj with(h1|h1)|h1
   ·rw[Nat.testBit_two_pow]at h1
    have:e.on=j:=by simpa using h1
    rw[←this];exact he
   ·exact hacc _ _ h1 he
   ·exact ih (fun e' h'=>ho e' (List.mem_cons_of_mem _ h')) h1
  ·exact ih (fun e' h'=>ho e' (List.mem_cons_of_mem _ h')) hj
theorem B5X{ops:Array Oper}{L:Nat→Bool}(hL:∀i,L i=true→A2K ops L i):
 ∀(l:List Oper) (acc:List Nat),(∀j,l[j]?=ops[acc.length+j]?)→
  (∀i j,(acc.getD i 0).testBit j=true→A2K ops L i→L j=true)→
  ∀i j,((A5v l acc).getD i 0).testBit j=true→A2K ops L i→L j=true
 | [],acc,_,h=>h
 |o::l,acc,hl,h=>by
  refine B5X hL l (acc++[A9w acc o]) (fun j=>by have:=hl (j+1);simpa[Nat.add_assoc,Nat.add_comm 1 j]using this) ?_
  intro i j hj hi
  by_cases hlt:i<acc.length
  ·rw[List.getD_eq_getElem?_getD,List.getElem?_append_left hlt,←List.getD_eq_getElem?_getD]at hj
   exact h i j hj hi
  ·by_cases he:i=acc.length
   ·subst he
    have h0:ops[acc.length]?=some o:=by have:=hl 0;simpa using this.symm
    rw[List.getD_eq_getElem?_getD,List.getElem?_append_right (Nat.le_refl _)]at hj
    simp only[Nat.sub_self,List.getElem?_cons_zero,Option.getD_some]at hj
    exact C1m (fun i' j' hj' hi'=>h i' j' hj' (hL i' hi')) (hi o h0) hj
   ·have:(acc++[A9w acc o]).getD i 0=0:=by
     rw[List.getD_eq_getElem?_getD,List.getElem?_eq_none (by simp;omega)];rfl
    rw[this]at hj;simp at hj
structure Rec where
 i:Nat
 s:B5
 v:Value
def A1r(dst:Option Nat)(v:Value)(σ:B5):B5:=match dst with
 |some d=>(d,v)::σ
 |none=>σ
def V5(ops:Array Oper)(i:Nat):Option Nat:=(ops[i]?).bind (·.dst)
def N5(ops:Array Oper)(L:Nat→Bool):List Rec→B5→B5
 | [],σ=>σ
 |r::rs,σ=>N5 ops L rs (if L r.i then A1r (V5 ops r.i) r.v σ else σ)
theorem W5(ops:Array Oper)(L:Nat→Bool):∀(A C:List Rec) (σ:B5),N5 ops L (A++C) σ=N5 ops L C (N5 ops L A σ)
 | [],_,_=>rfl
 |r::A,C,σ=>by simp only[List.cons_append,N5];exact W5 ops L A C _
theorem A8j{dst:Option Nat}{v:Value}(h:dst≠some t):lk (A1r dst v σ) t=lk σ t:=by
 cases dst with
 |none=>rfl
 |some d=>exact A1s _ _ (fun e=>h (by rw[e]))
theorem A0M(ops:Array Oper)(L M:Nat→Bool)(t:Nat):∀(A:List Rec) (σ τ:B5),lk σ t=lk τ t→
 (∀r∈A,V5 ops r.i=some t→L r.i=M r.i)→lk (N5 ops L A σ) t=lk (N5 ops M A τ) t
 | [],_,_,h,_=>h
 |r::A,σ,τ,h,hA=>by
  simp only[N5]
  refine A0M ops L M t A _ _ ?_ (fun r' h'=>hA r' (List.mem_cons_of_mem _ h'))
  by_cases hd:V5 ops r.i=some t
  ·rw[←hA r (List.mem_cons_self ..) hd]
   split
   ·simp only[hd,A1r,A0C]
   ·exact h
  ·(repeat' split) <;> simp only[A8j hd,h]
theorem A2u(ops:Array Oper)(L:Nat→Bool)(t:Nat):∀(C:List Rec) (σ:B5),
 (∀r∈C,V5 ops r.i=some t→L r.i=false)→lk (N5 ops L C σ) t=lk σ t
 | [],_,_=>rfl
 |r::C,σ,hC=>by
  simp only[N5]
  rw[A2u ops L t C _ (fun r' h'=>hC r' (List.mem_cons_of_mem _ h'))]
  by_cases hd:V5 ops r.i=some t
  ·rw[hC r (List.mem_cons_self ..) hd];rfl
  ·split
   ·exact A8j hd
   ·rfl
def M6(ops:Array Oper)(σ:B5)(o:Oper):Option Bool:=match o.guard with
 |none=>some true
 |some (j,b)=>match(V5 ops j).bind (lk σ)with
  |some (.bool c)=>some (c == b)
  |some _=>some false
  |none=>none
def conf(ops:Array Oper)(x y:Oper):Bool:= !(x.apart ops y)
def A4C(f:Nat→Nat→Bool):List Nat→Bool
 | []=>true
 |i::l=>l.all (f i)&&A4C f l
theorem A2H{f:Nat→Nat→Bool}:∀{A C:List Nat},A4C f (A++C)=true→∀i∈A,∀j∈C,f i j=true
 | [],_,_,_,hi,_,_=>by cases hi
 |x::A,C,h,i,hi,j,hj=>by
  simp only[List.cons_append,A4C,Bool.and_eq_true,List.all_eq_true]at h
  cases hi with
  |head=>exact h.1 j (List.mem_append_right _ hj)
  |tail _ hi=>exact A2H h.2 i hi j hj
def A9W(ops:Array Oper):List Nat→List Nat→Bool
 |_,[]=>true
 |done,i::l=>(match ops[i]? with
  |some o=>o.after.toList.all fun e=> !Region.binds .any e || done.contains e.on
  |none=>false)&&A9W ops (i::done) l
inductive Plan where
 |done:Plan
 |cons:Nat→Plan→Plan
 |fork:Plan→Plan→Plan
def Plan.path:Plan→List Nat
 | .done=>[]
 | .cons i p=>i::p.path
 | .fork p _=>p.path
def Plan.paths:Plan→List (List Nat)
 | .done=>[[]]
 | .cons i p=>p.paths.map (i:: ·)
 | .fork p q=>p.paths++q.paths
def Plan.heads:Plan→List Nat
 | .done=>[]
 | .cons i _=>[i]
 | .fork p q=>p.heads++q.heads
def Plan.Sel:Plan→Nat→Plan→Prop
 | .done,_,_=>False
 | .cons j p,i,r=>j=i∧r=p
 | .fork p q,i,r=>p.Sel i r∨q.Sel i r
theorem A0b:∀{π:Plan} {i:Nat},i∈π.heads→∃r,π.Sel i r
 | .done,i,h=>by cases h
 | .cons j p,i,h=>⟨p,by simp only[Plan.heads,List.mem_singleton]at h;exact⟨h.symm,rfl⟩⟩
 | .fork p q,i,h=>by
  rcases List.mem_append.1 h with h|h
  ·obtain⟨r,hr⟩:=A0b h;exact⟨r,.inl hr⟩
  ·obtain⟨r,hr⟩:=A0b h;exact⟨r,.inr hr⟩
theorem Y5:∀{π:Plan} {i:Nat} {r:Plan},π.Sel i r→∀l∈r.paths,i::l∈π.paths
 | .done,_,_,h=>h.elim
 | .cons j p,i,r,⟨h1,h2⟩=>by subst h1;subst h2;intro l hl;exact List.mem_map.2 ⟨l,hl,rfl⟩
 | .fork p q,i,r,h=>by
  intro l hl
  rcases h with h|h
  ·exact List.mem_append_left _ (Y5 h l hl)
  ·exact List.mem_append_right _ (Y5 h l hl)
theorem Plan.path_mem:∀(π:Plan),π.path∈π.paths
 | .done=>by simp[Plan.path,Plan.paths]
 | .cons i p=>List.mem_map.2 ⟨p.path,p.path_mem,rfl⟩
 | .fork p q=>List.mem_append_left _ p.path_mem
def C1L:Op→Bool
 | .move _=>true
 | .assign _=>true
 | .extract _ _=>true
 |_=>false
def B2N(ops:Array Oper)(i:Nat):Bool:=match ops[i]? with
 |some o=>C1L o.op
 |none=>false
theorem C3L{P:Program}{B:Base}{op:Op}{ty:TypeId}{V:Value}(hc:C1L op=true)(h:OpX P B m H σ op ty V){w:World}(hw:St B m H w):
 ∀(B':Base) (m':Mem) (H':List Ent),OpX P B' m' H' σ op ty V:=by
 intro B' m' H'
 refine⟨h.sel,h.defd,fun w1 _ o a next Q ho ht k=>?_⟩
 have key:=h.run w hw ⟨some 0,op,ty, "",#[],none⟩ ⟨#[undef],[]⟩ (fun a' _=>a'.tmps[0]?=some V) (fun _ _ _=>False) rfl rfl (fun _ _=>by simp[Act.put])
 cases op <;> simp only[C1L,Bool.false_eq_true]at hc
 case move x=>
  simp[execOp,Oper.upon,Act.put]at key
  simp only[execOp,ho]
  subst key
  exact k w1 (Ext.refl _)
 case assign x=>
  simp[execOp,Oper.upon,Act.put]at key
  simp only[execOp,ho]
  subst key
  exact k w1 (Ext.refl _)
 case extract x i=>
  simp only[execOp,ho]at key⊢
  generalize S2 σ x=v at key⊢
  cases v
  case tuple vs=>
   simp only[Instr.extract]at key⊢
   cases hi:vs[i]? with
   |none=>simp[hi,Oper.upon]at key
   |some u=>
    simp[hi,Oper.upon,Act.put]at key
    subst key
    simpa[hi,Oper.upon]using k w1 (Ext.refl _)
  all_goals simp[Instr.extract,Oper.upon]at key
def C0L(ops:Array Oper)(an:List Nat)(π piv non:List Nat):Bool:=
 let before (i j:Nat):Bool:=(an.getD j 0).testBit i
 (List.range ops.size).all (fun i=>π.contains i)&&π.all (fun i=>decide (i<ops.size))&&A9W ops [] π&&
 A4C (fun i j=>(match ops[i]?,ops[j]? with
  |some x,some y=>x.apart ops y
  |_,_=>false) || before i j) π&&
 A4C (fun i j=> !non.contains j || before i j || (B2N ops i || (piv.contains i || non.contains (i+100000)))) π&&decide π.Nodup
def pok(an piv:List Nat):Bool→Plan→Bool
 |_,.done=>true
 |must,.cons i p=>(must || !piv.contains i || p.path.all fun k=>(an.getD k 0).testBit i)&&pok an piv false p
 |must,.fork p q=>(must || p.path.all fun k=>(p.heads++q.heads).contains k || (p.heads++q.heads).any fun h=>(an.getD k 0).testBit h)&&pok an piv true p&&pok an piv true q
def chk(ops:Array Oper)(π:Plan)(piv non:List Nat):Bool:=
 let an:=A5v ops.toList []
 π.paths.all (fun l=>C0L ops an l piv non)&&pok an piv false π
theorem B1k{an piv:List Nat}:∀{π:Plan} {must:Bool} {i:Nat} {r:Plan},pok an piv must π=true→π.Sel i r→pok an piv false r=true
 | .done,_,_,_,_,h=>h.elim
 | .cons j p,must,i,r,h,⟨h1,h2⟩=>by subst h2;simp only[pok,Bool.and_eq_true]at h;exact h.2
 | .fork p q,must,i,r,h,hs=>by
  simp only[pok,Bool.and_eq_true]at h
  rcases hs with hs|hs
  ·exact B1k h.1.2 hs
  ·exact B1k h.2 hs
theorem B9l{an piv:List Nat}{π:Plan}(h:pok an piv false π=true)(hp:∀i∈π.heads,piv.contains i=true):∀k∈π.path,k∈π.heads∨∃h∈π.heads,(an.getD k 0).testBit h=true:=by
 cases π with
 |done=>intro k hk;cases hk
 |cons i p=>
  simp only[pok,Bool.and_eq_true,Bool.or_eq_true,List.all_eq_true]at h
  intro k hk
  simp only[Plan.path,List.mem_cons]at hk
  rcases hk with rfl|hk
  ·exact .inl (List.mem_singleton.2 rfl)
  ·rcases h.1 with h1|h1
   ·have h2:=hp i (List.mem_singleton.2 rfl)
    rw[h2]at h1
    rcases h1 with h1|h1 <;> cases h1
   ·exact .inr ⟨i,List.mem_singleton.2 rfl,h1 k hk⟩
 |fork p q=>
  simp only[pok,Bool.and_eq_true,Bool.or_eq_true,List.all_eq_true]at h
  intro k hk
  rcases h.1.1 with h1|h1
  ·cases h1
  ·rcases h1 k hk with h2|h2
   ·exact .inl (by simpa[Plan.heads]using h2)
   ·obtain⟨x,hx,hb⟩:=List.any_eq_true.1 h2
    exact .inr ⟨x,by simpa[Plan.heads]using hx,hb⟩
def WK0(N:Nat)(Ds:List Nat)(B:Base)(m:Mem)(H:List Ent)(σ:B5)(K:Act→World→Prop):Prop:=∀w,St B m H w→∀a,Env N Ds σ a→K a w
def DW0(P:Program)(B:Base)(N:Nat)(ops:Array Oper)(piv non:List Nat)(K:Mem→List Ent→B5→Prop):Bool→Plan→Mem→List Ent→B5→Prop
 |_,.done,m,H,σ=>K m H σ
 |must,.cons i π,m,H,σ=>∃o,ops[i]?=some o∧(∀d,o.dst=some d→d<N)∧
  ((must=false∧M6 ops σ o=some false∧DW0 P B N ops piv non K false π m H (A1r o.dst undef σ))∨
   (must=false∧M6 ops σ o=some true∧piv.contains i=false∧∃V,OpX P B m H σ o.op o.type V∧(non.contains (i+100000)=true→∀m' H',m.le m'→OpX P B m' H' σ o.op o.type V)∧DW0 P B N ops piv non K false π m H (A1r o.dst V σ))∨
   (piv.contains i=true∧M6 ops σ o=some true∧∃T,OpTo P B m H σ o.op o.type T∧
    (non.contains i=false→(∃w0,St B m H w0)→∀v m' H',T v m' H'→∀w,St B m' H' w→St B m H w)∧
    (∀v m' H',T v m' H'→m.le m')∧∀v m' H',T v m' H'→DW0 P B N ops piv non K false π m' H' (A1r o.dst v σ)))
 |_,.fork p q,m,H,σ=>p.heads≠[]∧DW0 P B N ops piv non K true p m H σ∧DW0 P B N ops piv non K true q m H σ
section
variable{M:Option Nat}{Ds:List Nat}{P:Program}{B:Base}{N:Nat}{ops:Array Oper}{piv non:List Nat}{K:Mem→List Ent→B5→Prop}{Q:Exit→Act→World→Prop}
def Flo(P:Program)(B:Base)(N:Nat)(ops:Array Oper)(piv non:List Nat)(m:Mem)(H:List Ent)(r:Rec):Prop:=∃o,ops[r.i]?=some o∧(∀d,o.dst=some d→d<N)∧
 ((M6 ops r.s o=some false∧r.v=undef)∨(M6 ops r.s o=some true∧piv.contains r.i=false∧OpX P B m H r.s o.op o.type r.v∧(non.contains (r.i+100000)=true→∀m' H',m.le m'→OpX P B m' H' r.s o.op o.type r.v)))
def A0q(ops:Array Oper)(σ0:B5):List Rec→Prop
 | []=>True
 |r::rs=>r.s=σ0∧A0q ops (A1r (V5 ops r.i) r.v σ0) rs
theorem A0m(ops:Array Oper):∀(A C:List Rec) (σ0:B5),A0q ops σ0 (A++C)↔A0q ops σ0 A∧A0q ops (N5 ops (fun _=>true) A σ0) C
 | [],C,σ0=>by simp[A0q,N5]
 |r::A,C,σ0=>by
  simp only[List.cons_append,A0q,N5,if_true,A0m ops A C]
  exact and_assoc.symm
def PN(P:Program)(B:Base)(N:Nat)(ops:Array Oper)(piv non:List Nat)(K:Mem→List Ent→B5→Prop)(π:Plan)(m:Mem)(H:List Ent)(σ:B5):Prop:=
 ∀i r,π.Sel i r→∃o,ops[i]?=some o∧(∀d,o.dst=some d→d<N)∧piv.contains i=true∧M6 ops σ o=some true∧
  ∃T,OpTo P B m H σ o.op o.type T∧(non.contains i=false→(∃w0,St B m H w0)→∀v m' H',T v m' H'→∀w,St B m' H' w→St B m H w)∧
   (∀v m' H',T v m' H'→m.le m')∧∀v m' H',T v m' H'→DW0 P B N ops piv non K false r m' H' (A1r o.dst v σ)
theorem DW0.pn:∀{π:Plan} {m:Mem} {H:List Ent} {σ:B5},DW0 P B N ops piv non K true π m H σ→PN P B N ops piv non K π m H σ
 | .done,_,_,_,_=>fun _ _ h=>h.elim
 | .cons j p,m,H,σ,⟨o,ho,hd,h⟩=>by
  intro i r ⟨h1,h2⟩
  subst h1;subst h2
  rcases h with h|h|h
  ·cases h.1
  ·cases h.1
  ·exact⟨o,ho,hd,h.1,h.2.1,h.2.2⟩
 | .fork p q,m,H,σ,⟨_,h1,h2⟩=>by
  intro i r h
  rcases h with h|h
  ·exact h1.pn i r h
  ·exact h2.pn i r h
theorem DW0.norm(σ0:B5):∀(π:Plan) (pre:List Rec) (m:Mem) (H:List Ent) (σ:B5),DW0 P B N ops piv non K false π m H σ→A0q ops σ0 pre→
 N5 ops (fun _=>true) pre σ0=σ→∀an,pok an piv false π=true→
 ∃C π' σ',A0q ops σ0 (pre++C)∧N5 ops (fun _=>true) (pre++C) σ0=σ'∧π.path=C.map (·.i)++π'.path∧(∀l∈π'.paths,C.map (·.i)++l∈π.paths)∧pok an piv false π'=true∧(∀r∈C,Flo P B N ops piv non m H r)∧
  ((π'= .done∧K m H σ')∨(π'.heads≠[]∧PN P B N ops piv non K π' m H σ'∧DW0 P B N ops piv non K false π' m H σ'))
 | .done,pre,m,H,σ,h,hc,hs,an,hp=>⟨[],.done,σ,by simpa using hc,by simpa using hs,rfl,by simp,hp,by simp,.inl ⟨rfl,h⟩⟩
 | .fork p q,pre,m,H,σ,h,hc,hs,an,hp=>⟨[],.fork p q,σ,by simpa using hc,by simpa using hs,rfl,by simp,hp,by simp,.inr ⟨by simp[Plan.heads,h.1],(show DW0 P B N ops piv non K true (.fork p q) m H σ from h).pn,h⟩⟩
 | .cons i π,pre,m,H,σ,h,hc,hs,an,hp=>by
  obtain⟨o,ho,hd,h|h|h⟩:=h
  ·obtain⟨_,hg,hw⟩:=h
   have hc':A0q ops σ0 (pre++[⟨i,σ,undef⟩]):=(A0m ..).2 ⟨hc,by rw[hs];exact⟨rfl,trivial⟩⟩
   obtain⟨C,π',σ',h1,h2,h3,h3',h3'',h4,h5⟩:=DW0.norm σ0 π (pre++[⟨i,σ,undef⟩]) m H _ hw hc' (by rw[W5,hs];simp[N5,V5,ho]) an (by simp only[pok,Bool.and_eq_true]at hp;exact hp.2)
   refine⟨⟨i,σ,undef⟩::C,π',σ',by simpa using h1,by simpa using h2,by simp[Plan.path,h3],fun l hl=>by simpa[Plan.paths]using h3' l hl,h3'',?_,h5⟩
   intro r hr
   cases hr with
   |head=>exact⟨o,ho,hd,.inl ⟨hg,rfl⟩⟩
   |tail _ hr=>exact h4 r hr
  ·obtain⟨_,hg,hnp,V,hx,hfr,hw⟩:=h
   have hc':A0q ops σ0 (pre++[⟨i,σ,V⟩]):=(A0m ..).2 ⟨hc,by rw[hs];exact⟨rfl,trivial⟩⟩
   obtain⟨C,π',σ',h1,h2,h3,h3',h3'',h4,h5⟩:=DW0.norm σ0 π (pre++[⟨i,σ,V⟩]) m H _ hw hc' (by rw[W5,hs];simp[N5,V5,ho]) an (by simp only[pok,Bool.and_eq_true]at hp;exact hp.2)
   refine⟨⟨i,σ,V⟩::C,π',σ',by simpa using h1,by simpa using h2,by simp[Plan.path,h3],fun l hl=>by simpa[Plan.paths]using h3' l hl,h3'',?_,h5⟩
   intro r hr
   cases hr with
   |head=>exact⟨o,ho,hd,.inr ⟨hg,hnp,hx,hfr⟩⟩
   |tail _ hr=>exact h4 r hr
  ·have hh:DW0 P B N ops piv non K true (.cons i π) m H σ:=⟨o,ho,hd,.inr (.inr h)⟩
   exact⟨[],.cons i π,σ,by simpa using hc,by simpa using hs,rfl,by simp,hp,by simp,.inr ⟨by simp[Plan.heads],hh.pn,⟨o,ho,hd,.inr (.inr h)⟩⟩⟩
def M7(listed:Array Bool)(i:Nat):Bool:=listed.getD i false
theorem B5S(hi:i<listed.size)(j:Nat):M7 (listed.setIfInBounds i true) j=(M7 listed j || decide (j=i)):=by
 unfold M7
 rw[Array.getD_eq_getD_getElem?,Array.getD_eq_getD_getElem?,Array.getElem?_setIfInBounds]
 by_cases h:i=j
 ·subst h;simp[hi]
 ·simp[h,Ne.symm h]
theorem B1A(h:i∈Region.ready .any ops listed):i<ops.size∧listed.getD i true=false∧A2K ops (M7 listed) i:=by
 unfold Region.ready at h
 obtain⟨h1,h2⟩:=List.mem_filter.1 h
 simp only[Bool.and_eq_true,Bool.not_eq_true']at h2
 refine⟨List.mem_range.1 h1,h2.1,?_⟩
 intro o ho e he hb
 have:=h2.2
 simp only[ho,Option.map_some,Option.getD_some,Array.all_eq_true_iff_forall_mem]at this
 have h3:=this e (Array.mem_toList_iff.1 he)
 simpa[hb,M7]using h3
theorem C2k(ho:ops[i]?=some o)(hl:listed.getD i true=false)
 (hok:∀e∈o.after.toList,Region.binds .any e=true→M7 listed e.on=true):i∈Region.ready .any ops listed:=by
 unfold Region.ready
 refine List.mem_filter.2 ⟨List.mem_range.2 (Array.getElem?_eq_some_iff.1 ho).1,?_⟩
 simp only[Bool.and_eq_true,Bool.not_eq_true',hl,true_and,ho,Option.map_some,Option.getD_some,Array.all_eq_true_iff_forall_mem]
 intro e he
 cases hb:Region.binds .any e with
 |false=>simp
 |true=>simpa[M7]using hok e (Array.mem_toList_iff.2 he) hb
theorem C2y(h:Operand.tmp t∈o.op.operands):t∈o.looksAt ops:=by
 unfold Oper.looksAt
 exact List.mem_append_left _ (List.mem_filterMap.2 ⟨.tmp t,by simpa using h,rfl⟩)
theorem B4L{j:Nat}{b:Bool}(hg:o.guard=some (j,b))(ht:V5 ops j=some t):t∈o.looksAt ops:=by
 unfold Oper.looksAt
 refine List.mem_append_right _ ?_
 have:(ops[j]?.bind fun x=>x.dst)=some t:=ht
 simp[hg,this]
theorem A7i{τ:B5}{b:Bool}(ha:Env N Ds τ a)(hl:∀t∈o.looksAt ops,lk τ t=lk σ t)(hg:M6 ops σ o=some b):
 Region.wanted o (yielded ops a.tmps)=b:=by
 unfold M6 at hg
 unfold Region.wanted
 cases hgd:o.guard with
 |none=>simp only[hgd]at hg ⊢; cases hg;rfl
 |some jw=>
  obtain⟨j,want⟩:=jw
  simp only[hgd]at hg⊢
  cases hd:V5 ops j with
  |none=>simp[hd]at hg
  |some t=>
   simp only[hd,Option.bind_some]at hg
   have hlk:=hl t (B4L hgd hd)
   cases hs:lk σ t with
   |none=>simp[hs]at hg
   |some v=>
    simp only[hs]at hg
    rw[hs]at hlk
    have hav:=ha.get t v hlk
    have hd':(ops[j]?.bind fun x=>x.dst)=some t:=hd
    simp only[yielded,hd',Option.bind_some,hav]
    cases v
    case bool c=>
     simp at hg
     subst hg
     cases c <;> cases want <;> rfl
    all_goals(simp at hg;subst hg;rfl)
theorem B5C{τ:B5}(ha:Env N Ds τ a)(hl:∀t∈o.looksAt ops,lk τ t=lk σ t)(hs:notSel o.op)(hd:defd σ o.op):
 execOp a.eval o=execOp (S2 σ) o:=
 execOp_congr o (fun cs b e=>by rw[e]at hs;exact hs) fun x hx=>by
  obtain⟨v,hv⟩:=hd x hx
  have:ev τ x=some v:=by
   cases x with
   |tmp t=>simp only[ev]at hv ⊢; rw[hl t (C2y hx)];exact hv
   |const c=>exact hv
   |global g=>exact hv
   |func f=>exact hv
  rw[ha.eval this]
  simp[S2,hv]
theorem A8R{x y:Oper}(h:x.apart ops y=true):(∀t,x.dst=some t→t ∉ y.looksAt ops)∧(∀t,x.dst=some t→y.dst≠some t)∧(∀t,y.dst=some t→t ∉ x.looksAt ops):=Oper.apart_spec h
theorem B8S{f g:Nat→Bool}{i:Nat}:∀{l:List Nat},(∀x∈l,g x=true→f x=true)→i∈l→f i=true→g i=false→l.countP g<l.countP f
 | [],_,hi,_,_=>by cases hi
 |x::l,h,hi,hf,hg=>by
  have hle:l.countP g≤l.countP f:=List.countP_mono_left (fun y hy=>h y (List.mem_cons_of_mem _ hy))
  by_cases e:x=i
  ·subst e
   simp only[List.countP_cons,hf,hg]
   simp
   omega
  ·have hi':i∈l:=by cases hi with
    |head=>exact absurd rfl e
    |tail _ h=>exact h
   have ih:=B8S (l:=l) (fun y hy=>h y (List.mem_cons_of_mem _ hy)) hi' hf hg
   have hx:=h x (List.mem_cons_self ..)
   cases hgx:g x with
   |false=>simp only[List.countP_cons,hgx];simp;omega
   |true=>simp only[List.countP_cons,hgx,hx hgx];simp;omega
structure Facts(ops:Array Oper)(π piv non:List Nat):Prop where
 all:∀i,i<ops.size→i∈π
 lt:∀i∈π,i<ops.size
 lin:A9W ops [] π=true
 conf:∀A C,π=A++C→∀i∈A,∀j∈C,∀x y,ops[i]?=some x→ops[j]?=some y→x.apart ops y=true∨((A5v ops.toList []).getD j 0).testBit i=true
 non:∀A C,π=A++C→∀i∈A,∀j∈C,non.contains j=true→((A5v ops.toList []).getD j 0).testBit i=true∨B2N ops i=true∨piv.contains i=true∨non.contains (i+100000)=true
 nodup:π.Nodup
theorem B9b{piv non:List Nat}(h:C0L ops (A5v ops.toList []) π piv non=true):Facts ops π piv non:=by
 unfold C0L at h
 simp only[Bool.and_eq_true,List.all_eq_true,decide_eq_true_eq]at h
 obtain⟨⟨⟨⟨⟨h1,h2⟩,h3⟩,h4⟩,h6⟩,h7⟩:=h
 refine⟨fun i hi=>by simpa using h1 i (List.mem_range.2 hi),h2,h3,?_,?_,h7⟩
 ·intro A C e i hi j hj x y hx hy
  subst e
  have:=A2H h4 i hi j hj
  simp only[hx,hy,Bool.or_eq_true]at this
  exact this
 ·intro A C e i hi j hj hp
  subst e
  have:=A2H h6 i hi j hj
  simp only[hp,Bool.not_true,Bool.false_or,Bool.or_eq_true]at this
  exact this
theorem A8e{L:Nat→Bool}:∀(π done:List Nat),A9W ops done π=true→(∀i∈done,L i=true)→(∃i∈π,L i=false)→
 ∃i∈π,L i=false∧∃o,ops[i]?=some o∧∀e∈o.after.toList,Region.binds .any e=true→L e.on=true
 | [],_,_,_,⟨i,hi,_⟩=>by cases hi
 |x::π,done,h,hd,⟨i,hi,hli⟩=>by
  simp only[A9W,Bool.and_eq_true]at h
  cases hL:L x with
  |false=>
   refine⟨x,List.mem_cons_self ..,hL,?_⟩
   cases ho:ops[x]? with
   |none=>simp[ho]at h
   |some o=>
    simp only[ho,List.all_eq_true]at h
    refine⟨o,rfl,fun e he hb=>?_⟩
    have:=h.1 e he
    simp only[hb,Bool.not_true,Bool.false_or]at this
    exact hd _ (by simpa using this)
  |true=>
   have hi':i∈π:=by cases hi with
    |head=>rw[hL]at hli;cases hli
    |tail _ h=>exact h
   obtain⟨j,hj,h1,h2⟩:=A8e π (x::done) h.2 (fun k hk=>by
    cases hk with
    |head=>exact hL
    |tail _ hk=>exact hd k hk) ⟨i,hi',hli⟩
   exact⟨j,List.mem_cons_of_mem _ hj,h1,h2⟩
theorem A8n(F:Facts ops π piv non){σ0:B5}{A C:List Rec}{r:Rec}{rest:List Nat}
 (hπ:π=(A++r::C).map (·.i)++rest) (hanc:∀i j,((A5v ops.toList []).getD i 0).testBit j=true→A2K ops L i→L j=true)
 (hcl:∀i,L i=true→A2K ops L i) (hr:L r.i=false) (hok:A2K ops L r.i) (ho:ops[r.i]?=some o)
 (hrec:∀x∈A++r::C,∃y,ops[x.i]?=some y):
 ∀t∈o.looksAt ops,lk (N5 ops L (A++r::C) σ0) t=lk (N5 ops (fun _=>true) A σ0) t:=by
 intro t ht
 rw[W5,A2u]
 ·refine A0M ops _ _ t A _ _ rfl ?_
  intro x hx hdx
  obtain⟨y,hy⟩:=hrec x (List.mem_append_left _ hx)
  have hdy:y.dst=some t:=by simpa[V5,hy]using hdx
  rcases F.conf (A.map (·.i)) ((r::C).map (·.i)++rest) (by rw[hπ];simp) x.i (List.mem_map.2 ⟨x,hx,rfl⟩) r.i (by simp) y o hy ho with h1|h1
  ·exact absurd ht ((A8R h1).1 t hdy)
  ·exact hanc _ _ h1 hok
 ·intro x hx hdx
  cases hx with
  |head=>exact hr
  |tail _ hx=>
   obtain⟨y,hy⟩:=hrec x (List.mem_append_right _ (List.mem_cons_of_mem _ hx))
   have hdy:y.dst=some t:=by simpa[V5,hy]using hdx
   rcases F.conf ((A++[r]).map (·.i)) (C.map (·.i)++rest) (by rw[hπ];simp) r.i (by simp) x.i (List.mem_append_left _ (List.mem_map.2 ⟨x,hx,rfl⟩)) o y ho hy with h1|h1
   ·exact absurd ht ((A8R h1).2.2 t hdy)
   ·cases hLx:L x.i with
    |false=>rfl
    |true=>rw[hanc _ _ h1 (hcl _ hLx)]at hr;cases hr
theorem B2L(F:Facts ops π piv non){σ0:B5}{A C:List Rec}{r:Rec}{rest:List Nat}{L':Nat→Bool}
 (hπ:π=(A++r::C).map (·.i)++rest) (hanc:∀i j,((A5v ops.toList []).getD i 0).testBit j=true→A2K ops L i→L j=true)
 (hcl:∀i,L i=true→A2K ops L i) (hr:L r.i=false) (ho:ops[r.i]?=some o) (hN:∀d,o.dst=some d→d<N)
 (hrec:∀x∈A++r::C,∃y,ops[x.i]?=some y) (hL':∀j,L' j=(L j || decide (j=r.i)))
 (ha:Env N Ds (N5 ops L (A++r::C) σ0) a):Env N Ds (N5 ops L' (A++r::C) σ0) (a.put o.dst r.v):=by
 have hnd:((A++r::C).map (·.i)).Nodup:=by
  have:=F.nodup;rw[hπ]at this;exact(List.nodup_append.1 this).1
 have hCne:∀x∈C,x.i≠r.i:=by
  intro x hx e
  rw[List.map_append,List.map_cons]at hnd
  have h2:=(List.nodup_append.1 hnd).2.1
  exact(List.nodup_cons.1 h2).1 (List.mem_map.2 ⟨x,hx,e⟩)
 refine⟨by cases o.dst <;> exact ha.defers,by cases o.dst <;> simp[Act.put,ha.size],?_⟩
 intro t v hv
 by_cases hd:o.dst=some t
 ·have hdr:V5 ops r.i=some t:=by simp[V5,ho,hd]
  rw[W5,N5,hL',hr]at hv
  simp only[Bool.false_or,decide_true,if_true]at hv
  rw[A2u]at hv
  ·rw[hdr]at hv
   simp only[A1r,A0C]at hv
   cases hv
   simp[Act.put,hd,ha.size,hN t hd]
  ·intro x hx hdx
   rw[hL',decide_eq_false (hCne x hx),Bool.or_false]
   obtain⟨y,hy⟩:=hrec x (List.mem_append_right _ (List.mem_cons_of_mem _ hx))
   have hdy:y.dst=some t:=by simpa[V5,hy]using hdx
   rcases F.conf ((A++[r]).map (·.i)) (C.map (·.i)++rest) (by rw[hπ];simp) r.i (by simp) x.i (List.mem_append_left _ (List.mem_map.2 ⟨x,hx,rfl⟩)) o y ho hy with h1|h1
   ·exact absurd hdy ((A8R h1).2.1 t hd)
   ·cases hLx:L x.i with
    |false=>rfl
    |true=>rw[hanc _ _ h1 (hcl _ hLx)]at hr;cases hr
 ·have he:lk (N5 ops L' (A++r::C) σ0) t=lk (N5 ops L (A++r::C) σ0) t:=by
   refine A0M ops _ _ t _ _ _ rfl ?_
   intro x _ hdx
   rw[hL']
   have:x.i≠r.i:=fun e=>by rw[e]at hdx;simp only[V5,ho,Option.bind_some]at hdx;exact hd hdx
   simp[this]
  rw[he]at hv
  have:=ha.get t v hv
  cases hdd:o.dst with
  |none=>exact this
  |some d=>
   have hne:d≠t:=fun e=>hd (by rw[hdd,e])
   simp[Act.put,Array.getElem?_setIfInBounds_ne hne,this]
theorem B6u(hi:i<listed.size)(hcl:∀j,M7 listed j=true→A2K ops (M7 listed) j)(hok:A2K ops (M7 listed) i):
 ∀j,M7 (listed.setIfInBounds i true) j=true→A2K ops (M7 (listed.setIfInBounds i true)) j:=by
 intro j hj o ho e he hb
 rw[B5S hi]at hj⊢
 simp only[Bool.or_eq_true,decide_eq_true_eq]at hj⊢
 rcases hj with hj|rfl
 ·exact .inl (hcl j hj o ho e he hb)
 ·exact .inl (hok o ho e he hb)
theorem B9R(σ0:B5):
 ∀(fuel:Nat) (pre:List Rec) (rest:Plan) (listed:Array Bool) (a:Act) (w:World) (m:Mem) (H:List Ent) (σ:B5),
  listed.size=ops.size→(List.range ops.size).countP (fun i=> !M7 listed i)≤fuel→(∀l∈rest.paths,Facts ops (pre.map (·.i)++l) piv non)→pok (A5v ops.toList []) piv false rest=true→A0q ops σ0 pre→N5 ops (fun _=>true) pre σ0=σ→
  (∀i,M7 listed i=true→A2K ops (M7 listed) i)→(∀r∈pre,M7 listed r.i=false→Flo P B N ops piv non m H r)→(∀i∈rest.path,M7 listed i=false)→
  St B m H w→Env N Ds (N5 ops (M7 listed) pre σ0) a→DW0 P B N ops piv non (fun m H σ=>WK0 N Ds B m H σ (Q .normal)) false rest m H σ→
  wpAnyIn (fen M) 0 P .any ops Q fuel listed a w:=by
 intro fuel
 induction fuel with
 |zero=>
  intro pre rest listed a w m H σ hsz hf hF hP hch hsg hcl hflo hun hst hev hdw
  obtain⟨C,π',σ',hch',hsg',hrest,hpaths,hP',hfC,hend⟩:=DW0.norm σ0 rest pre m H σ hdw hch hsg _ hP
  have F:=hF _ rest.path_mem
  have hall:∀i,i<ops.size→M7 listed i=true:=by
   intro i hi
   have h0:(List.range ops.size).countP (fun i=> !M7 listed i)=0:=by omega
   have:=List.countP_eq_zero.1 h0 i (List.mem_range.2 hi)
   simpa using this
  have hπ'n:rest.path=[]:=by
   cases hp:rest.path with
   |nil=>rfl
   |cons p l=>
    have hpm:p∈rest.path:=by rw[hp];exact List.mem_cons_self ..
    have h1:=hun p hpm
    rw[hall p (F.lt p (List.mem_append_right _ hpm))]at h1
    cases h1
  rw[hπ'n]at hrest
  have hCn:C=[]:=by
   cases C with
   |nil=>rfl
   |cons r l=>simp at hrest
  subst hCn
  simp only[List.append_nil]at hsg'
  refine⟨?_,?_⟩
  ·cases hr:Region.ready .any ops listed with
   |nil=>rfl
   |cons i l=>
    have hm:i∈Region.ready .any ops listed:=by rw[hr];exact List.mem_cons_self ..
    obtain⟨h1,h2,_⟩:=B1A hm
    have h3:=hall i h1
    unfold M7 at h3
    rw[Array.getD_eq_getD_getElem?,Array.getElem?_eq_getElem (by rw[hsz];exact h1)]at h2 h3
    simp at h2 h3
    rw[h2]at h3;cases h3
  ·rcases hend with⟨_,hK⟩|⟨hne,hpn,_⟩
   ·refine hK w hst a ⟨hev.defers,hev.size,fun t v hv=>hev.get t v ?_⟩
    rw[←hsg']at hv
    rw[←hv]
    refine A0M ops _ _ t pre _ _ rfl fun r hr _=>hall r.i (F.lt _ (List.mem_append_left _ (List.mem_map.2 ⟨r,hr,rfl⟩)))
   ·exfalso
    cases hh:π'.heads with
    |nil=>exact hne hh
    |cons i l=>
     obtain⟨r,hr⟩:=A0b (π:=π') (i:=i) (by rw[hh];exact List.mem_cons_self ..)
     have h1:=hF _ (hpaths _ (Y5 hr _ r.path_mem))
     have h2:=h1.nodup
     have h3:i<ops.size:=h1.lt i (by simp)
     have h4:=F.all i h3
     rw[hπ'n,List.append_nil]at h4
     have h5:=(List.nodup_append.1 h2).2.2 i h4 i (by simp)
     exact h5 rfl
 |succ fuel ih=>
  intro pre rest listed a w m H σ hsz hf hF hP hch hsg hcl hflo hun hst hev hdw
  obtain⟨C,π',σ',hch',hsg',hrest,hpaths,hP',hfC,hend⟩:=DW0.norm σ0 rest pre m H σ hdw hch hsg _ hP
  have F:Facts ops ((pre++C).map (·.i)++π'.path) piv non:=by
   have:=hF _ rest.path_mem
   rw[hrest]at this
   simpa using this
  have hF2:∀l∈π'.paths,Facts ops ((pre++C).map (·.i)++l) piv non:=fun l hl=>by
   have:=hF _ (hpaths l hl)
   simpa using this
  have hanc:∀i j,((A5v ops.toList []).getD i 0).testBit j=true→A2K ops (M7 listed) i→M7 listed j=true:=
   B5X hcl ops.toList [] (by simp) (by simp)
  have hunC:∀r∈C,M7 listed r.i=false:=fun r hr=>hun r.i (by rw[hrest];exact List.mem_append_left _ (List.mem_map.2 ⟨r,hr,rfl⟩))
  have hun':∀i∈π'.path,M7 listed i=false:=fun i hi=>hun i (by rw[hrest];exact List.mem_append_right _ hi)
  have hflo2:∀r∈pre++C,M7 listed r.i=false→Flo P B N ops piv non m H r:=fun r hr hl=>by
   rcases List.mem_append.1 hr with h1|h1
   ·exact hflo r h1 hl
   ·exact hfC r h1
  have hev2:Env N Ds (N5 ops (M7 listed) (pre++C) σ0) a:=⟨hev.defers,hev.size,fun t v hv=>hev.get t v (by
   rw[W5,A2u ops _ t C _ (fun r hr _=>hunC r hr)]at hv;exact hv)⟩
  have hrecs:∀x∈pre++C,∃y,ops[x.i]?=some y:=fun x hx=>by
   have:=F.lt x.i (List.mem_append_left _ (List.mem_map.2 ⟨x,hx,rfl⟩))
   exact⟨_,Array.getElem?_eq_getElem this⟩
  refine⟨?_,?_⟩
  ·intro hnil
   have hall:∀i∈(pre++C).map (·.i)++π'.path,M7 listed i=true:=by
    intro i hi
    cases hl:M7 listed i with
    |true=>rfl
    |false=>
     obtain⟨j,hj,h1,o,ho,h2⟩:=A8e (L:=M7 listed) _ [] F.lin (by simp) ⟨i,hi,hl⟩
     have:j∈Region.ready .any ops listed:=C2k ho (by
      have hjlt:j<listed.size:=by rw[hsz];exact F.lt j hj
      unfold M7 at h1
      rw[Array.getD_eq_getD_getElem?,Array.getElem?_eq_getElem hjlt]at h1⊢
      simpa using h1) h2
     rw[hnil]at this;cases this
   have hπ'n:π'.path=[]:=by
    cases hp:π'.path with
    |nil=>rfl
    |cons p l=>
     have hpm:p∈π'.path:=by rw[hp];exact List.mem_cons_self ..
     have h1:=hun' p hpm
     rw[hall p (List.mem_append_right _ hpm)]at h1
     cases h1
   rcases hend with⟨_,hK⟩|⟨hne,hpn,_⟩
   ·refine hK w hst a ⟨hev2.defers,hev2.size,fun t v hv=>hev2.get t v ?_⟩
    rw[←hsg']at hv
    rw[←hv]
    refine A0M ops _ _ t _ _ _ rfl fun r hr _=>hall r.i (List.mem_append_left _ (List.mem_map.2 ⟨r,hr,rfl⟩))
   ·exfalso
    cases hh:π'.heads with
    |nil=>exact hne hh
    |cons i l=>
     obtain⟨r,hr⟩:=A0b (π:=π') (i:=i) (by rw[hh];exact List.mem_cons_self ..)
     have h1:=hF2 _ (Y5 hr _ r.path_mem)
     have h2:=h1.nodup
     have h3:i<ops.size:=h1.lt i (by simp)
     have h4:=F.all i h3
     rw[hπ'n,List.append_nil]at h4
     have h5:=(List.nodup_append.1 h2).2.2 i h4 i (by simp)
     exact h5 rfl
  ·intro i hi
   obtain⟨hilt,hil,hiok⟩:=B1A hi
   have hisz:i<listed.size:=by rw[hsz];exact hilt
   have hiL:M7 listed i=false:=by
    unfold M7
    rw[Array.getD_eq_getD_getElem?,Array.getElem?_eq_getElem hisz]at hil⊢
    simpa using hil
   have hL':∀j,M7 (listed.setIfInBounds i true) j=(M7 listed j || decide (j=i)):=B5S hisz
   have hcl':=B6u (ops:=ops) hisz hcl hiok
   have hcnt:(List.range ops.size).countP (fun j=> !M7 (listed.setIfInBounds i true) j)≤fuel:=by
    have:(List.range ops.size).countP (fun j=> !M7 (listed.setIfInBounds i true) j)<(List.range ops.size).countP (fun j=> !M7 listed j):=
     B8S (i:=i) (fun x _ hx=>by rw[hL']at hx;simp at hx ⊢; exact hx.1) (List.mem_range.2 hilt) (by simp[hiL]) (by simp[hL'])
    omega
   have hsz':(listed.setIfInBounds i true).size=ops.size:=by simp[hsz]
   have hne:∀j,j≠i→M7 (listed.setIfInBounds i true) j=M7 listed j:=fun j hj=>by rw[hL'];simp[hj]
   have hmem:i∈(pre++C).map (·.i)++π'.path:=F.all i hilt
   rcases List.mem_append.1 hmem with hm1|hm1
   ·
     obtain⟨r,hr,rfl⟩:=List.mem_map.1 hm1
     obtain⟨A,D,hAD⟩:=List.append_of_mem hr
     obtain⟨o,ho,hdN,hfl⟩:=hflo2 r hr hiL
     have hs:r.s=N5 ops (fun _=>true) A σ0:=by
      rw[hAD]at hch'
      exact((A0m ops A (r::D) σ0).1 hch').2.1
     have hπ3:(pre++C).map (·.i)++π'.path=(A++r::D).map (·.i)++π'.path:=by rw[←hAD]
     have hlook:∀t∈o.looksAt ops,lk (N5 ops (M7 listed) (pre++C) σ0) t=lk r.s t:=by
      intro t ht
      rw[hAD,hs]
      exact A8n F hπ3 hanc hcl hiL hiok ho (by rw[←hAD];exact hrecs) t ht
     have hgo:∀w',Ext w w'→wpAnyIn (fen M) 0 P .any ops Q fuel (listed.setIfInBounds r.i true) (a.put o.dst r.v) w':=by
      intro w' hx
      refine ih (pre++C) π' _ _ w' m H σ' hsz' hcnt hF2 hP' hch' hsg' hcl' ?_ ?_ (hst.ext hx) ?_ ?_
      ·intro r' hr' hl'
       refine hflo2 r' hr' ?_
       rw[hL']at hl'
       simp only[Bool.or_eq_false_iff]at hl'
       exact hl'.1
      ·intro j hj
       rw[hne j (fun e=>by
        subst e
        exact(List.nodup_append.1 F.nodup).2.2 r.i (List.mem_map.2 ⟨r,hr,rfl⟩) r.i hj rfl)]
       exact hun' j hj
      ·have:=B2L F hπ3 hanc hcl hiL ho hdN (by rw[←hAD];exact hrecs) hL' (by rw[←hAD];exact hev2)
       rw[hAD];exact this
      ·rcases hend with⟨rfl,hK⟩|⟨_,_,hd⟩
       ·exact hK
       ·exact hd
     unfold wpOpIn
     simp only[ho]
     rcases hfl with⟨hg,hv⟩|⟨hg,hnp,hx,_⟩
     ·rw[A7i hev2 hlook hg]
      simp only[Bool.false_eq_true,if_false]
      have:=hgo w (Ext.refl w)
      rw[hv]at this;exact⟨fun f _=>A1a M f,this⟩
     ·rw[A7i hev2 hlook hg]
      simp only[if_true]
      refine⟨fun f _=>A1a M f,?_⟩
      rw[Oper.semAt_eq _ _ _ hx.sel.def,B5C hev2 hlook hx.sel hx.defd]
      exact M4 M (hx.run w hst o a _ Q rfl rfl hgo)
   ·
     rcases hend with⟨rfl,hK⟩|⟨_,hpn,_⟩
     ·cases hm1
     have hip:i∈π'.heads:=by
      have hpiv:∀j∈π'.heads,piv.contains j=true:=fun j hj=>by
       obtain⟨r,hr⟩:=A0b hj
       obtain⟨_,_,_,h,_⟩:=hpn j r hr
       exact h
      rcases B9l hP' hpiv i hm1 with h|⟨h,hh,hb⟩
      ·exact h
      ·have h1:=hanc _ _ hb hiok
       obtain⟨r,hr⟩:=A0b hh
       have h2:=hF2 _ (Y5 hr _ r.path_mem)
       have h3:=F.all h (h2.lt h (by simp))
       rcases List.mem_append.1 h3 with h4|h4
       ·exact absurd rfl ((List.nodup_append.1 h2.nodup).2.2 h h4 h (by simp))
       ·rw[hun' h h4]at h1;cases h1
     obtain⟨π'',hsel⟩:=A0b hip
     obtain⟨o,ho,hdN,hp,hg,T,ht,hm,hml,hk⟩:=hpn i π'' hsel
     have hF3:∀l∈π''.paths,Facts ops ((pre++C).map (·.i)++i::l) piv non:=fun l hl=>hF2 _ (Y5 hsel l hl)
     have F3:=hF3 _ π''.path_mem
     have hπ3:(pre++C).map (·.i)++i::π''.path=((pre++C)++⟨i,σ',undef⟩::([]:List Rec)).map (·.i)++π''.path:=by simp
     have hrec3:∀v,∀x∈(pre++C)++⟨i,σ',v⟩::([]:List Rec),∃y,ops[x.i]?=some y:=by
      intro v x hx
      rcases List.mem_append.1 hx with h1|h1
      ·exact hrecs x h1
      ·simp only[List.mem_singleton]at h1;subst h1;exact⟨o,ho⟩
     have hsg3:∀v,N5 ops (M7 listed) ((pre++C)++[⟨i,σ',v⟩]) σ0=N5 ops (M7 listed) (pre++C) σ0:=by
      intro v;rw[W5];simp[N5,hiL]
     have hlook:∀t∈o.looksAt ops,lk (N5 ops (M7 listed) (pre++C) σ0) t=lk σ' t:=by
      intro t ht'
      have:=A8n (σ0:=σ0) F3 hπ3 hanc hcl hiL hiok ho (hrec3 undef) t ht'
      rw[hsg3]at this
      rw[this,hsg']
     unfold wpOpIn
     simp only[ho]
     rw[A7i hev2 hlook hg]
     simp only[if_true]
     refine⟨fun f _=>A1a M f,?_⟩
     rw[Oper.semAt_eq _ _ _ ht.sel.def,B5C hev2 hlook ht.sel ht.defd]
     refine ht.run M _ w hst o a _ Q rfl rfl fun v m' H' w' hT hst'=>?_
     have hπ4:(pre++C).map (·.i)++i::π''.path=((pre++C)++[Rec.mk i σ' v]).map (·.i)++π''.path:=by simp
     refine ih ((pre++C)++[⟨i,σ',v⟩]) π'' _ _ w' m' H' (A1r o.dst v σ') hsz' hcnt (fun l hl=>by have:=hF3 l hl;simpa using this) (B1k hP' hsel) ?_ ?_ hcl' ?_ ?_ hst' ?_ (hk v m' H' hT)
     ·exact(A0m ops _ _ _).2 ⟨hch',by rw[hsg'];exact⟨rfl,trivial⟩⟩
     ·rw[W5,hsg'];simp[N5,V5,ho]
     ·intro r hr hl
      rw[hL']at hl
      simp only[Bool.or_eq_false_iff]at hl
      rcases List.mem_append.1 hr with h1|h1
      ·cases hn:non.contains i with
       |true=>
        have h2:=F3.non ((pre++C).map (·.i)) (i::π''.path) rfl r.i (List.mem_map.2 ⟨r,h1,rfl⟩) i (List.mem_cons_self ..) hn
        rcases h2 with h2|h2|h2|h2
        ·have h3:=hanc _ _ h2 hiok
         rw[h3]at hl;cases hl.1
        rotate_left
        ·obtain⟨o',ho',hd',hfl⟩:=hflo2 r h1 hl.1
         exact⟨o',ho',hd',hfl.imp id fun⟨_,hnp,_⟩=>by rw[h2]at hnp;cases hnp⟩
        ·obtain⟨o',ho',hd',hfl⟩:=hflo2 r h1 hl.1
         exact⟨o',ho',hd',hfl.imp id fun⟨hg',hnp,hx,hfr⟩=>⟨hg',hnp,hfr h2 m' H' (hml v m' H' hT),fun hf m2 H2 hle=>hfr hf m2 H2 (Mem.le_trans (hml v m' H' hT) hle)⟩⟩
        ·obtain⟨o',ho',hd',hfl⟩:=hflo2 r h1 hl.1
         unfold B2N at h2
         simp only[ho']at h2
         exact⟨o',ho',hd',hfl.imp id fun⟨hg',hnp,hx,hfr⟩=>⟨hg',hnp,C3L h2 hx hst _ _ _,fun hf m2 H2 hle=>hfr hf m2 H2 (Mem.le_trans (hml v m' H' hT) hle)⟩⟩
       |false=>
        obtain⟨o',ho',hd',hfl⟩:=hflo2 r h1 hl.1
        refine⟨o',ho',hd',hfl.imp id fun⟨hg',hnp,hx,hfr⟩=>⟨hg',hnp,⟨hx.sel,hx.defd,fun w1 hw1=>hx.run w1 (hm hn ⟨w,hst⟩ v m' H' hT w1 hw1)⟩,fun hf m2 H2 hle=>hfr hf m2 H2 (Mem.le_trans (hml v m' H' hT) hle)⟩⟩
      ·simp only[List.mem_singleton]at h1
       subst h1
       simp at hl
     ·intro j hj
      have hnd:=F3.nodup
      have hji:j≠i:=fun e=>by
       subst e
       have h2:=(List.nodup_append.1 hnd).2.1
       exact(List.nodup_cons.1 h2).1 hj
      rw[hne j hji]
      have h3:=F.all j (F3.lt j (List.mem_append_right _ (List.mem_cons_of_mem _ hj)))
      rcases List.mem_append.1 h3 with h4|h4
      ·exact absurd rfl ((List.nodup_append.1 hnd).2.2 j h4 j (List.mem_cons_of_mem _ hj))
      ·exact hun' j h4
     ·exact B2L F3 (r:=⟨i,σ',v⟩) (C:=[]) hπ4 hanc hcl hiL ho hdN (hrec3 v) hL' (by rw[hsg3];exact hev2)
def DW(P:Program)(B:Base)(N:Nat)(ops:Array Oper)(piv non:List Nat)(K:Mem→List Ent→B5→Prop):Bool→Plan→Mem→List Ent→B5→Prop
 |_,.done,m,H,σ=>K m H σ
 |must,.cons i π,m,H,σ=>∃o,ops[i]?=some o∧(∀d,o.dst=some d→d<N)∧
  ((must=false∧M6 ops σ o=some false∧DW P B N ops piv non K false π m H (A1r o.dst undef σ))∨
   (must=false∧M6 ops σ o=some true∧piv.contains i=false∧∃V,OpX P B m H σ o.op o.type V∧(non.contains (i+100000)=true→∀m' H',m.le m'→OpX P B m' H' σ o.op o.type V)∧DW P B N ops piv non K false π m H (A1r o.dst V σ))∨
   (piv.contains i=true∧M6 ops σ o=some true∧∃T,OpTo P B m H σ o.op o.type T∧
    (non.contains i=false→∀v m' H',T v m' H'→m.le m'∧H.Sublist H')∧
    (∀v m' H',T v m' H'→m.le m')∧∀v m' H',T v m' H'→DW P B N ops piv non K false π m' H' (A1r o.dst v σ)))
 |_,.fork p q,m,H,σ=>p.heads≠[]∧DW P B N ops piv non K true p m H σ∧DW P B N ops piv non K true q m H σ
theorem St.less{B:Base}{m':Mem}{w w0:World}(h:St B m' H w)(hle:m.le m')(h0:St B m H w0):St B m H w:=
 {h with
  sub:=fun b o hb=>h.sub b o (hle b o hb)
  le:=h0.le
  new:=h0.new
  avoid:=fun b hb=>by
   cases hm:m b with
   |none=>rfl
   |some o=>have:=h.avoid b hb;rw[hle b o hm]at this;cases this}
theorem DW.raw{K:Mem→List Ent→B5→Prop}{R:List Ent}:∀{must:Bool} {π:Plan} {m:Mem} {H:List Ent} {σ:B5},DW P B N ops piv non K must π m H σ→
 DW0 P B N ops piv non (fun m H'' σ=>∃H',H''=H'++R∧K m H' σ) must π m (H++R) σ
 |_,.done,m,H,σ,h=>⟨H,rfl,h⟩
 |_,.fork p q,m,H,σ,⟨h0,h1,h2⟩=>⟨h0,h1.raw,h2.raw⟩
 |_,.cons i π,m,H,σ,h=>by
  obtain⟨o,ho,hd,h|h|h⟩:=h
  ·exact⟨o,ho,hd,.inl ⟨h.1,h.2.1,h.2.2.raw⟩⟩
  ·obtain⟨h0,hg,hnp,V,hx,hfr,hw⟩:=h
   exact⟨o,ho,hd,.inr (.inl ⟨h0,hg,hnp,V,hx.frame,hfr,hw.raw⟩)⟩
  ·obtain⟨hp,hg,T,ht,hm,hml,hk⟩:=h
   refine⟨o,ho,hd,.inr (.inr ⟨hp,hg,_,ht.frame,?_,fun v m' H'' ⟨H',hT,_⟩=>hml v m' H' hT,?_⟩)⟩
   ·intro hn ⟨w0,h0⟩ v m' H'' ⟨H',hT,hH⟩ w hw
    obtain⟨h1,h2⟩:=hm hn v m' H' hT
    rw[hH]at hw
    exact(hw.weaken (h2.append_right _)).less h1 h0
   ·intro v m' H'' ⟨H',hT,hH⟩
    rw[hH];exact(hk v m' H' hT).raw
theorem DW0.mono{K K':Mem→List Ent→B5→Prop}(hK:∀m H σ,K m H σ→K' m H σ):∀{must:Bool} {π:Plan} {m:Mem} {H:List Ent} {σ:B5},DW0 P B N ops piv non K must π m H σ→DW0 P B N ops piv non K' must π m H σ
 |_,.done,m,H,σ,h=>hK _ _ _ h
 |_,.fork p q,m,H,σ,⟨h0,h1,h2⟩=>⟨h0,h1.mono hK,h2.mono hK⟩
 |_,.cons i π,m,H,σ,h=>by
  obtain⟨o,ho,hd,h|h|h⟩:=h
  ·exact⟨o,ho,hd,.inl ⟨h.1,h.2.1,h.2.2.mono hK⟩⟩
  ·obtain⟨h0,hg,hnp,V,hx,hfr,hw⟩:=h
   exact⟨o,ho,hd,.inr (.inl ⟨h0,hg,hnp,V,hx,hfr,hw.mono hK⟩)⟩
  ·obtain⟨hp,hg,T,ht,hm,hml,hk⟩:=h
   exact⟨o,ho,hd,.inr (.inr ⟨hp,hg,T,ht,hm,hml,fun v m' H' hT=>(hk v m' H' hT).mono hK⟩)⟩
theorem K7{id:Nat}{π:Plan}(piv non:List Nat)(hm:P.follows .mixedOrders=true)(hchk:chk ops π piv non=true)
 (h:DW P B N ops piv non (fun m H σ=>WK N B m H σ (Q .normal)) false π m H σ):WC M P N Q B m H σ (.region id ops true):=by
 intro Ds w hw a ha
 simp only[chk,Bool.and_eq_true,List.all_eq_true]at hchk
 refine wpIn_region_any hm (B9R (M:=M) (Ds:=Ds) (Q:=Q) (non:=non) (piv:=piv) σ ops.size [] π _ a _ m (H++marks Ds) σ (by simp) ?_ (fun l hl=>by simpa using B9b (hchk.1 l hl)) hchk.2 trivial rfl ?_ (by simp) ?_ (hw.ext (Ext.drew w)) ha (h.raw.mono ?_))
 rotate_right
 ·rintro m H'' σ ⟨H',rfl,hK⟩ w hw a ha
  exact hK Ds w hw a ha
 ·exact Nat.le_trans List.countP_le_length (by simp)
 ·intro i hi
  unfold M7 at hi
  rw[Array.getD_eq_getD_getElem?,Array.getElem?_replicate]at hi
  split at hi <;> simp at hi
 ·intro i _
  unfold M7
  rw[Array.getD_eq_getD_getElem?,Array.getElem?_replicate]
  split <;> rfl
end
end Go.Kx
