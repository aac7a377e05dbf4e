import Derived.Test.YtooomcigmleneaaGreatKxA
set_option linter.all false
namespace Go.Kx
variable{H:List Ent}{L:Nat→Bool}{a:Act}{i:Nat}{listed:Array Bool}{m:Mem}{o:Oper}{t:Nat}{π:List Nat}{σ:B6}
def NE(acc:List Nat)(o:Oper):Nat:=o.after.toList.foldr (fun e s=>if Region.binds .any e then(2^e.on ||| acc.getD e.on 0) ||| s else s) 0
def GJ:List Oper→List Nat→List Nat
 | [],acc=>acc
 |o::l,acc=>GJ l (acc++[NE acc o])
def Dr(ops:Array Oper)(L:Nat→Bool)(i:Nat):Prop:=∀o,ops[i]?=some o→∀e∈o.after.toList,Region.binds .any e=true→L e.on=true
theorem A7i{acc:List Nat}(hacc:∀i j,(acc.getD i 0).testBit j=true→L i=true→L j=true)
 (ho:∀e∈o.after.toList,Region.binds .any e=true→L e.on=true) {j:Nat} (hj:(NE acc o).testBit j=true):L j=true:=by
 unfold NE at hj
 generalize o.after.toList=es at ho hj
 induction es with
 |nil=>simp at hj
 |cons e es ih=>
  simp only[Up]at hj
  split at hj
  ·rename_i hb
   have b:=ho e (Sf ..) hb
   rw[Nat.testBit_or,Nat.testBit_or]at hj
   simp only[Tw]at hj
   rcases hj with(h1|h1)|h1
   ·rw[Nat.testBit_two_pow]at h1
    have:e.on=j:=by simpa using h1
    rw[←this];exact b
   ·exact hacc _ _ h1 b
   ·exact ih (fun e' a=>ho e' (Sg _ a)) h1
  ·exact ih (fun e' a=>ho e' (Sg _ a)) hj
theorem A2p{ops:Array Oper}{L:Nat→Bool}(hL:∀i,L i=true→Dr ops L i):
 ∀(l:List Oper) (acc:List Nat),(∀j,l[j]?=ops[acc.length+j]?)→
  (∀i j,(acc.getD i 0).testBit j=true→Dr ops L i→L j=true)→
  ∀i j,((GJ l acc).getD i 0).testBit j=true→Dr ops L i→L j=true
 | [],acc,_,h=>h
 |o::l,acc,hl,h=>by
  refine A2p hL l (acc++[NE acc o]) (fun j=>by have:=hl (j+1);simpa[SX,Nat.add_comm 1 j]using this) ?_
  intro i j a hi
  by_cases d:i<acc.length
  ·rw[Tx,SK d,←Tx]at a
   exact h i j a hi
  ·by_cases g:i=acc.length
   ·subst g
    have f:ops[acc.length]?=some o:=by have:=hl 0;simpa using this.symm
    rw[Tx,SL (E' _)]at a
    simp only[SY,List.getElem?_cons_zero,Uq]at a
    exact A7i (fun i' j' b c=>h i' j' b (hL i' c)) (hi o f) a
   ·have:(acc++[NE acc o]).getD i 0=0:=by
     rw[Tx,Sm (by simp;omega)];rfl
    rw[this]at a;simp at a
structure Rec where
 i:Nat
 s:B6
 v:Value
def Ce(dst:Option Nat)(v:Value)(σ:B6):B6:=match dst with
 |some d=>(d,v)::σ
 |none=>σ
def Y0(ops:Array Oper)(i:Nat):Option Nat:=(ops[i]?).bind (·.dst)
def O4(ops:Array Oper)(L:Nat→Bool):List Rec→B6→B6
 | [],σ=>σ
 |r::rs,σ=>O4 ops L rs (if L r.i then Ce (Y0 ops r.i) r.v σ else σ)
theorem Z0(ops:Array Oper)(L:Nat→Bool):∀(A C:List Rec) (σ:B6),O4 ops L (A++C) σ=O4 ops L C (O4 ops L A σ)
 | [],_,_=>rfl
 |r::A,C,σ=>by simp only[SM,O4];exact Z0 ops L A C _
theorem KN{dst:Option Nat}{v:Value}(h:dst≠some t):lk (Ce dst v σ) t=lk σ t:=by
 cases dst with
 |none=>rfl
 |some d=>exact BU _ _ (fun e=>h (by rw[e]))
theorem Bn(ops:Array Oper)(L M:Nat→Bool)(t:Nat):∀(A:List Rec) (σ τ:B6),lk σ t=lk τ t→
 (∀r∈A,Y0 ops r.i=some t→L r.i=M r.i)→lk (O4 ops L A σ) t=lk (O4 ops M A τ) t
 | [],_,_,h,_=>h
 |r::A,σ,τ,h,hA=>by
  simp only[O4]
  refine Bn ops L M t A _ _ ?_ (fun O h'=>hA O (Sg _ h'))
  by_cases hd:Y0 ops r.i=some t
  ·rw[←hA r (Sf ..) hd]
   split
   ·simp only[hd,Ce,Bf]
   ·exact h
  ·(repeat' split) <;> simp only[KN hd,h]
theorem Dm(ops:Array Oper)(L:Nat→Bool)(t:Nat):∀(C:List Rec) (σ:B6),
 (∀r∈C,Y0 ops r.i=some t→L r.i=false)→lk (O4 ops L C σ) t=lk σ t
 | [],_,_=>rfl
 |r::C,σ,hC=>by
  simp only[O4]
  rw[Dm ops L t C _ (fun O h'=>hC O (Sg _ h'))]
  by_cases hd:Y0 ops r.i=some t
  ·rw[hC r (Sf ..) hd];rfl
  ·split
   ·exact KN hd
   ·rfl
def N6(ops:Array Oper)(σ:B6)(o:Oper):Option Bool:=match o.guard with
 |none=>some true
 |some (j,b)=>match(Y0 ops j).bind (lk σ)with
  |some (.bool c)=>some (c == b)
  |some _=>some false
  |none=>none
def conf(ops:Array Oper)(x y:Oper):Bool:= !(x.apart ops y)
def FP(f:Nat→Nat→Bool):List Nat→Bool
 | []=>true
 |i::l=>l.all (f i)&&FP f l
theorem Dl{f:Nat→Nat→Bool}:∀{A C:List Nat},FP f (A++C)=true→∀i∈A,∀j∈C,f i j=true
 | [],_,_,_,hi,_,_=>by cases hi
 |x::A,C,h,i,hi,j,hj=>by
  simp only[SM,FP,SN,Tp]at h
  cases hi with
  |head=>exact h.1 j (Sx _ hj)
  |tail _ hi=>exact Dl h.2 i hi j hj
def MY(ops:Array Oper):List Nat→List Nat→Bool
 |_,[]=>true
 |done,i::l=>(match ops[i]? with
  |some o=>o.after.toList.all fun e=> !Region.binds .any e || done.contains e.on
  |none=>false)&&MY ops (i::done) l
inductive Plan where
 |done:Plan
 |cons:Nat→Plan→Plan
 |fork:Plan→Plan→Plan
def Plan.path:Plan→List Nat
 | .done=>[]
 | .cons i p=>i::p.path
 | .fork p _=>p.path
def Plan.paths:Plan→List (List Nat)
 | .done=>[[]]
 | .cons i p=>p.paths.map (i:: ·)
 | .fork p q=>p.paths++q.paths
def Plan.heads:Plan→List Nat
 | .done=>[]
 | .cons i _=>[i]
 | .fork p q=>p.heads++q.heads
def Plan.Sel:Plan→Nat→Plan→Prop
 | .done,_,_=>False
 | .cons j p,i,r=>j=i∧r=p
 | .fork p q,i,r=>p.Sel i r∨q.Sel i r
theorem AH:∀{π:Plan} {i:Nat},i∈π.heads→∃r,π.Sel i r
 | .done,i,h=>by cases h
 | .cons j p,i,h=>⟨p,by simp only[Plan.heads,Sp]at h;exact⟨h.symm,rfl⟩⟩
 | .fork p q,i,h=>by
  rcases Sa.1 h with h|h
  ·obtain⟨r,hr⟩:=AH h;exact⟨r,.inl hr⟩
  ·obtain⟨r,hr⟩:=AH h;exact⟨r,.inr hr⟩
theorem Am:∀{π:Plan} {i:Nat} {r:Plan},π.Sel i r→∀l∈r.paths,i::l∈π.paths
 | .done,_,_,h=>h.elim
 | .cons j p,i,r,⟨h1,h2⟩=>by subst h1;subst h2;intro l hl;exact Sh.2 ⟨l,hl,rfl⟩
 | .fork p q,i,r,h=>by
  intro l hl
  rcases h with h|h
  ·exact Sk _ (Am h l hl)
  ·exact Sx _ (Am h l hl)
theorem Plan.path_mem:∀(π:Plan),π.path∈π.paths
 | .done=>by simp[Plan.path,Plan.paths]
 | .cons i p=>Sh.2 ⟨p.path,p.path_mem,rfl⟩
 | .fork p q=>Sk _ p.path_mem
def A7F:Op→Bool
 | .move _=>true
 | .assign _=>true
 | .extract _ _=>true
 |_=>false
def A0E(ops:Array Oper)(i:Nat):Bool:=match ops[i]? with
 |some o=>A7F o.op
 |none=>false
theorem B1g{P:Program}{B:Base}{op:Op}{ty:TypeId}{V:Value}(hc:A7F op=true)(h:OpX P B m H σ op ty V){w:World}(hw:St B m H w):
 ∀(B':Base) (m':Mem) (H':List Ent),OpX P B' m' H' σ op ty V:=by
 intro B' m' H'
 refine⟨h.sel,h.defd,fun b _ o a next Q c d k=>?_⟩
 have key:=h.run w hw ⟨some 0,op,ty, "",#[],none⟩ ⟨#[undef],[]⟩ (fun a' _=>a'.tmps[0]?=some V) (fun _ _ _=>False) rfl rfl (fun _ _=>by simp[Act.put])
 cases op <;> simp only[A7F,Bool.false_eq_true]at hc
 case move x=>
  simp[execOp,Oper.upon,Act.put]at key
  simp only[execOp,c]
  subst key
  exact k b (Ext.refl _)
 case assign x=>
  simp[execOp,Oper.upon,Act.put]at key
  simp only[execOp,c]
  subst key
  exact k b (Ext.refl _)
 case extract x i=>
  simp only[execOp,c]at key⊢
  generalize T4 σ x=v at key⊢
  cases v
  case tuple vs=>
   simp only[Instr.extract]at key⊢
   cases hi:vs[i]? with
   |none=>simp[hi,Oper.upon]at key
   |some u=>
    simp[hi,Oper.upon,Act.put]at key
    subst key
    simpa[hi,Oper.upon]using k b (Ext.refl _)
  all_goals simp[Instr.extract,Oper.upon]at key
def A7d(ops:Array Oper)(an:List Nat)(π piv non:List Nat):Bool:=
 let before (i j:Nat):Bool:=(an.getD j 0).testBit i
 (List.range ops.size).all (fun i=>π.contains i)&&π.all (fun i=>decide (i<ops.size))&&MY ops [] π&&
 FP (fun i j=>(match ops[i]?,ops[j]? with
  |some x,some y=>x.apart ops y
  |_,_=>false) || before i j) π&&
 FP (fun i j=> !non.contains j || before i j || (A0E ops i || (piv.contains i || non.contains (i+100000)))) π&&decide π.Nodup
def ET(an piv:List Nat):Bool→Plan→Bool
 |_,.done=>true
 |must,.cons i p=>(must || !piv.contains i || p.path.all fun k=>(an.getD k 0).testBit i)&&ET an piv false p
 |must,.fork p q=>(must || p.path.all fun k=>(p.heads++q.heads).contains k || (p.heads++q.heads).any fun h=>(an.getD k 0).testBit h)&&ET an piv true p&&ET an piv true q
def chk(ops:Array Oper)(π:Plan)(piv non:List Nat):Bool:=
 let an:=GJ ops.toList []
 π.paths.all (fun l=>A7d ops an l piv non)&&ET an piv false π
theorem NZ{an piv:List Nat}:∀{π:Plan} {must:Bool} {i:Nat} {r:Plan},ET an piv must π=true→π.Sel i r→ET an piv false r=true
 | .done,_,_,_,_,h=>h.elim
 | .cons j p,must,i,r,h,⟨h1,h2⟩=>by subst h2;simp only[ET,SN]at h;exact h.2
 | .fork p q,must,i,r,h,hs=>by
  simp only[ET,SN]at h
  rcases hs with hs|hs
  ·exact NZ h.1.2 hs
  ·exact NZ h.2 hs
theorem A5F{an piv:List Nat}{π:Plan}(h:ET an piv false π=true)(hp:∀i∈π.heads,piv.contains i=true):∀k∈π.path,k∈π.heads∨∃h∈π.heads,(an.getD k 0).testBit h=true:=by
 cases π with
 |done=>intro k a;cases a
 |cons i p=>
  simp only[ET,SN,Tw,Tp]at h
  intro k a
  simp only[Plan.path,Sn]at a
  rcases a with rfl|a
  ·exact .inl (Sp.2 rfl)
  ·rcases h.1 with h1|h1
   ·have b:=hp i (Sp.2 rfl)
    rw[b]at h1
    rcases h1 with h1|h1 <;> cases h1
   ·exact .inr ⟨i,Sp.2 rfl,h1 k a⟩
 |fork p q=>
  simp only[ET,SN,Tw,Tp]at h
  intro k a
  rcases h.1.1 with h1|h1
  ·cases h1
  ·rcases h1 k a with b|b
   ·exact .inl (by simpa[Plan.heads]using b)
   ·obtain⟨x,c,d⟩:=List.any_eq_true.1 b
    exact .inr ⟨x,by simpa[Plan.heads]using c,d⟩
def WK0(N:Nat)(Ds:List Nat)(B:Base)(m:Mem)(H:List Ent)(σ:B6)(K:Act→World→Prop):Prop:=∀w,St B m H w→∀a,Env N Ds σ a→K a w
def DW0(P:Program)(B:Base)(N:Nat)(ops:Array Oper)(piv non:List Nat)(K:Mem→List Ent→B6→Prop):Bool→Plan→Mem→List Ent→B6→Prop
 |_,.done,m,H,σ=>K m H σ
 |must,.cons i π,m,H,σ=>∃o,ops[i]?=some o∧(∀d,o.dst=some d→d<N)∧
  ((must=false∧N6 ops σ o=some false∧DW0 P B N ops piv non K false π m H (Ce o.dst undef σ))∨
   (must=false∧N6 ops σ o=some true∧piv.contains i=false∧∃V,OpX P B m H σ o.op o.type V∧(non.contains (i+100000)=true→∀m' H',m.le m'→OpX P B m' H' σ o.op o.type V)∧DW0 P B N ops piv non K false π m H (Ce o.dst V σ))∨
   (piv.contains i=true∧N6 ops σ o=some true∧∃T,OpTo P B m H σ o.op o.type T∧
    (non.contains i=false→(∃w0,St B m H w0)→∀v m' H',T v m' H'→∀w,St B m' H' w→St B m H w)∧
    (∀v m' H',T v m' H'→m.le m')∧∀v m' H',T v m' H'→DW0 P B N ops piv non K false π m' H' (Ce o.dst v σ)))
 |_,.fork p q,m,H,σ=>p.heads≠[]∧DW0 P B N ops piv non K true p m H σ∧DW0 P B N ops piv non K true q m H σ
section
variable{M:Option Nat}{Ds:List Nat}{P:Program}{B:Base}{N:Nat}{ops:Array Oper}{piv non:List Nat}{K:Mem→List Ent→B6→Prop}{Q:Exit→Act→World→Prop}
def Flo(P:Program)(B:Base)(N:Nat)(ops:Array Oper)(piv non:List Nat)(m:Mem)(H:List Ent)(r:Rec):Prop:=∃o,ops[r.i]?=some o∧(∀d,o.dst=some d→d<N)∧
 ((N6 ops r.s o=some false∧r.v=undef)∨(N6 ops r.s o=some true∧piv.contains r.i=false∧OpX P B m H r.s o.op o.type r.v∧(non.contains (r.i+100000)=true→∀m' H',m.le m'→OpX P B m' H' r.s o.op o.type r.v)))
def AU(ops:Array Oper)(σ0:B6):List Rec→Prop
 | []=>True
 |r::rs=>r.s=σ0∧AU ops (Ce (Y0 ops r.i) r.v σ0) rs
theorem AO(ops:Array Oper):∀(A C:List Rec) (σ0:B6),AU ops σ0 (A++C)↔AU ops σ0 A∧AU ops (O4 ops (fun _=>true) A σ0) C
 | [],C,σ0=>by simp[AU,O4]
 |r::A,C,σ0=>by
  simp only[SM,AU,O4,if_true,AO ops A C]
  exact and_assoc.symm
def PN(P:Program)(B:Base)(N:Nat)(ops:Array Oper)(piv non:List Nat)(K:Mem→List Ent→B6→Prop)(π:Plan)(m:Mem)(H:List Ent)(σ:B6):Prop:=
 ∀i r,π.Sel i r→∃o,ops[i]?=some o∧(∀d,o.dst=some d→d<N)∧piv.contains i=true∧N6 ops σ o=some true∧
  ∃T,OpTo P B m H σ o.op o.type T∧(non.contains i=false→(∃w0,St B m H w0)→∀v m' H',T v m' H'→∀w,St B m' H' w→St B m H w)∧
   (∀v m' H',T v m' H'→m.le m')∧∀v m' H',T v m' H'→DW0 P B N ops piv non K false r m' H' (Ce o.dst v σ)
theorem DW0.pn:∀{π:Plan} {m:Mem} {H:List Ent} {σ:B6},DW0 P B N ops piv non K true π m H σ→PN P B N ops piv non K π m H σ
 | .done,_,_,_,_=>fun _ _ h=>h.elim
 | .cons j p,m,H,σ,⟨o,ho,hd,h⟩=>by
  intro i r ⟨h1,h2⟩
  subst h1;subst h2
  rcases h with h|h|h
  ·cases h.1
  ·cases h.1
  ·exact⟨o,ho,hd,h.1,h.2.1,h.2.2⟩
 | .fork p q,m,H,σ,⟨_,h1,h2⟩=>by
  intro i r h
  rcases h with h|h
  ·exact h1.pn i r h
  ·exact h2.pn i r h
theorem DW0.norm(σ0:B6):∀(π:Plan) (pre:List Rec) (m:Mem) (H:List Ent) (σ:B6),DW0 P B N ops piv non K false π m H σ→AU ops σ0 pre→
 O4 ops (fun _=>true) pre σ0=σ→∀an,ET an piv false π=true→
 ∃C π' σ',AU ops σ0 (pre++C)∧O4 ops (fun _=>true) (pre++C) σ0=σ'∧π.path=C.map (·.i)++π'.path∧(∀l∈π'.paths,C.map (·.i)++l∈π.paths)∧ET an piv false π'=true∧(∀r∈C,Flo P B N ops piv non m H r)∧
  ((π'= .done∧K m H σ')∨(π'.heads≠[]∧PN P B N ops piv non K π' m H σ'∧DW0 P B N ops piv non K false π' m H σ'))
 | .done,pre,m,H,σ,h,hc,hs,an,hp=>⟨[],.done,σ,by simpa using hc,by simpa using hs,rfl,by simp,hp,by simp,.inl ⟨rfl,h⟩⟩
 | .fork p q,pre,m,H,σ,h,hc,hs,an,hp=>⟨[],.fork p q,σ,by simpa using hc,by simpa using hs,rfl,by simp,hp,by simp,.inr ⟨by simp[Plan.heads,h.1],(show DW0 P B N ops piv non K true (.fork p q) m H σ from h).pn,h⟩⟩
 | .cons i π,pre,m,H,σ,h,hc,hs,an,hp=>by
  obtain⟨o,ho,hd,h|h|h⟩:=h
  ·obtain⟨_,g,k⟩:=h
   have b:AU ops σ0 (pre++[⟨i,σ,undef⟩]):=(AO ..).2 ⟨hc,by rw[hs];exact⟨rfl,trivial⟩⟩
   obtain⟨C,π',σ',n,s,t,c,a,u,v⟩:=DW0.norm σ0 π (pre++[⟨i,σ,undef⟩]) m H _ k b (by rw[Z0,hs];simp[O4,Y0,ho]) an (by simp only[ET,SN]at hp;exact hp.2)
   refine⟨⟨i,σ,undef⟩::C,π',σ',by simpa using n,by simpa using s,by simp[Plan.path,t],fun l f=>by simpa[Plan.paths]using c l f,a,?_,v⟩
   intro r d
   cases d with
   |head=>exact⟨o,ho,hd,.inl ⟨g,rfl⟩⟩
   |tail _ d=>exact u r d
  ·obtain⟨_,g,w,V,z,x,k⟩:=h
   have b:AU ops σ0 (pre++[⟨i,σ,V⟩]):=(AO ..).2 ⟨hc,by rw[hs];exact⟨rfl,trivial⟩⟩
   obtain⟨C,π',σ',n,s,t,c,a,u,v⟩:=DW0.norm σ0 π (pre++[⟨i,σ,V⟩]) m H _ k b (by rw[Z0,hs];simp[O4,Y0,ho]) an (by simp only[ET,SN]at hp;exact hp.2)
   refine⟨⟨i,σ,V⟩::C,π',σ',by simpa using n,by simpa using s,by simp[Plan.path,t],fun l f=>by simpa[Plan.paths]using c l f,a,?_,v⟩
   intro r d
   cases d with
   |head=>exact⟨o,ho,hd,.inr ⟨g,w,z,x⟩⟩
   |tail _ d=>exact u r d
  ·have y:DW0 P B N ops piv non K true (.cons i π) m H σ:=⟨o,ho,hd,.inr (.inr h)⟩
   exact⟨[],.cons i π,σ,by simpa using hc,by simpa using hs,rfl,by simp,hp,by simp,.inr ⟨by simp[Plan.heads],y.pn,⟨o,ho,hd,.inr (.inr h)⟩⟩⟩
def O0(listed:Array Bool)(i:Nat):Bool:=listed.getD i false
theorem A2f(hi:i<listed.size)(j:Nat):O0 (listed.setIfInBounds i true) j=(O0 listed j || decide (j=i)):=by
 unfold O0
 rw[SH,SH,Array.getElem?_setIfInBounds]
 by_cases h:i=j
 ·subst h;simp[hi]
 ·simp[h,Ne.symm h]
theorem PB(h:i∈Region.ready .any ops listed):i<ops.size∧listed.getD i true=false∧Dr ops (O0 listed) i:=by
 unfold Region.ready at h
 obtain⟨c,a⟩:=List.mem_filter.1 h
 simp only[SN,Bool.not_eq_true']at a
 refine⟨SS.1 c,a.1,?_⟩
 intro o d e f g
 have:=a.2
 simp only[d,Ty,Uq,Array.all_eq_true_iff_forall_mem]at this
 have b:=this e (Array.mem_toList_iff.1 f)
 simpa[g,O0]using b
theorem A7V(ho:ops[i]?=some o)(hl:listed.getD i true=false)
 (hok:∀e∈o.after.toList,Region.binds .any e=true→O0 listed e.on=true):i∈Region.ready .any ops listed:=by
 unfold Region.ready
 refine List.mem_filter.2 ⟨SS.2 (SA.1 ho).1,?_⟩
 simp only[SN,Bool.not_eq_true',hl,true_and,ho,Ty,Uq,Array.all_eq_true_iff_forall_mem]
 intro e a
 cases hb:Region.binds .any e with
 |false=>simp
 |true=>simpa[O0]using hok e (Array.mem_toList_iff.2 a) hb
theorem A7y(h:Operand.tmp t∈o.op.operands):t∈o.looksAt ops:=by
 unfold Oper.looksAt
 exact Sk _ (List.mem_filterMap.2 ⟨.tmp t,by simpa using h,rfl⟩)
theorem A0L{j:Nat}{b:Bool}(hg:o.guard=some (j,b))(ht:Y0 ops j=some t):t∈o.looksAt ops:=by
 unfold Oper.looksAt
 refine Sx _ ?_
 have:(ops[j]?.bind fun x=>x.dst)=some t:=ht
 simp[hg,this]
theorem Jf{τ:B6}{b:Bool}(ha:Env N Ds τ a)(hl:∀t∈o.looksAt ops,lk τ t=lk σ t)(hg:N6 ops σ o=some b):
 Region.wanted o (yielded ops a.tmps)=b:=by
 unfold N6 at hg
 unfold Region.wanted
 cases hgd:o.guard with
 |none=>simp only[hgd]at hg ⊢; cases hg;rfl
 |some jw=>
  obtain⟨j,want⟩:=jw
  simp only[hgd]at hg⊢
  cases hd:Y0 ops j with
  |none=>simp[hd]at hg
  |some t=>
   simp only[hd,Tz]at hg
   have d:=hl t (A0L hgd hd)
   cases hs:lk σ t with
   |none=>simp[hs]at hg
   |some v=>
    simp only[hs]at hg
    rw[hs]at d
    have f:=ha.get t v d
    have g:(ops[j]?.bind fun x=>x.dst)=some t:=hd
    simp only[yielded,g,Tz,f]
    cases v
    case bool c=>
     simp at hg
     subst hg
     cases c <;> cases want <;> rfl
    all_goals(simp at hg;subst hg;rfl)
theorem A2w{τ:B6}(ha:Env N Ds τ a)(hl:∀t∈o.looksAt ops,lk τ t=lk σ t)(hs:notSel o.op)(hd:defd σ o.op):
 execOp a.eval o=execOp (T4 σ) o:=
 execOp_congr o (fun cs b e=>by rw[e]at hs;exact hs) fun x k=>by
  obtain⟨v,d⟩:=hd x k
  have:ev τ x=some v:=by
   cases x with
   |tmp t=>simp only[ev]at d ⊢; rw[hl t (A7y k)];exact d
   |const c=>exact d
   |global g=>exact d
   |func f=>exact d
  rw[ha.eval this]
  simp[T4,d]
theorem LZ{x y:Oper}(h:x.apart ops y=true):(∀t,x.dst=some t→t ∉ y.looksAt ops)∧(∀t,x.dst=some t→y.dst≠some t)∧(∀t,y.dst=some t→t ∉ x.looksAt ops):=Oper.apart_spec h
theorem A5z{f g:Nat→Bool}{i:Nat}:∀{l:List Nat},(∀x∈l,g x=true→f x=true)→i∈l→f i=true→g i=false→l.countP g<l.countP f
 | [],_,hi,_,_=>by cases hi
 |x::l,h,hi,hf,hg=>by
  have hle:l.countP g≤l.countP f:=List.countP_mono_left (fun y a=>h y (Sg _ a))
  by_cases e:x=i
  ·subst e
   simp only[List.countP_cons,hf,hg]
   simp
   omega
  ·have b:i∈l:=by cases hi with
    |head=>exact absurd rfl e
    |tail _ h=>exact h
   have ih:=A5z (l:=l) (fun y a=>h y (Sg _ a)) b hf hg
   have c:=h x (Sf ..)
   cases hgx:g x with
   |false=>simp only[List.countP_cons,hgx];simp;omega
   |true=>simp only[List.countP_cons,hgx,c hgx];simp;omega
structure Facts(ops:Array Oper)(π piv non:List Nat):Prop where
 all:∀i,i<ops.size→i∈π
 lt:∀i∈π,i<ops.size
 lin:MY ops [] π=true
 conf:∀A C,π=A++C→∀i∈A,∀j∈C,∀x y,ops[i]?=some x→ops[j]?=some y→x.apart ops y=true∨((GJ ops.toList []).getD j 0).testBit i=true
 non:∀A C,π=A++C→∀i∈A,∀j∈C,non.contains j=true→((GJ ops.toList []).getD j 0).testBit i=true∨A0E ops i=true∨piv.contains i=true∨non.contains (i+100000)=true
 nodup:π.Nodup
theorem A6t{piv non:List Nat}(h:A7d ops (GJ ops.toList []) π piv non=true):Facts ops π piv non:=by
 unfold A7d at h
 simp only[SN,Tp,decide_eq_true_eq]at h
 obtain⟨⟨⟨⟨⟨b,c⟩,d⟩,f⟩,g⟩,k⟩:=h
 refine⟨fun i hi=>by simpa using b i (SS.2 hi),c,d,?_,?_,k⟩
 ·intro A C e i hi j a x y l m
  subst e
  have:=Dl f i hi j a
  simp only[l,m,Tw]at this
  exact this
 ·intro A C e i hi j a n
  subst e
  have:=Dl g i hi j a
  simp only[n,Bool.not_true,Bool.false_or,Tw]at this
  exact this
theorem Kp{L:Nat→Bool}:∀(π done:List Nat),MY ops done π=true→(∀i∈done,L i=true)→(∃i∈π,L i=false)→
 ∃i∈π,L i=false∧∃o,ops[i]?=some o∧∀e∈o.after.toList,Region.binds .any e=true→L e.on=true
 | [],_,_,_,⟨i,hi,_⟩=>by cases hi
 |x::π,done,h,hd,⟨i,hi,hli⟩=>by
  simp only[MY,SN]at h
  cases hL:L x with
  |false=>
   refine⟨x,Sf ..,hL,?_⟩
   cases ho:ops[x]? with
   |none=>simp[ho]at h
   |some o=>
    simp only[ho,Tp]at h
    refine⟨o,rfl,fun e he hb=>?_⟩
    have:=h.1 e he
    simp only[hb,Bool.not_true,Bool.false_or]at this
    exact hd _ (by simpa using this)
  |true=>
   have b:i∈π:=by cases hi with
    |head=>rw[hL]at hli;cases hli
    |tail _ h=>exact h
   obtain⟨j,c,d,f⟩:=Kp π (x::done) h.2 (fun k a=>by
    cases a with
    |head=>exact hL
    |tail _ a=>exact hd k a) ⟨i,b,hli⟩
   exact⟨j,Sg _ c,d,f⟩
theorem Kn(F:Facts ops π piv non){σ0:B6}{A C:List Rec}{r:Rec}{rest:List Nat}
 (hπ:π=(A++r::C).map (·.i)++rest) (hanc:∀i j,((GJ ops.toList []).getD i 0).testBit j=true→Dr ops L i→L j=true)
 (hcl:∀i,L i=true→Dr ops L i) (hr:L r.i=false) (hok:Dr ops L r.i) (ho:ops[r.i]?=some o)
 (hrec:∀x∈A++r::C,∃y,ops[x.i]?=some y):
 ∀t∈o.looksAt ops,lk (O4 ops L (A++r::C) σ0) t=lk (O4 ops (fun _=>true) A σ0) t:=by
 intro t f
 rw[Z0,Dm]
 ·refine Bn ops _ _ t A _ _ rfl ?_
  intro x b c
  obtain⟨y,d⟩:=hrec x (Sk _ b)
  have a:y.dst=some t:=by simpa[Y0,d]using c
  rcases F.conf (A.map (·.i)) ((r::C).map (·.i)++rest) (by rw[hπ];simp) x.i (Sh.2 ⟨x,b,rfl⟩) r.i (by simp) y o d ho with h1|h1
  ·exact absurd f ((LZ h1).1 t a)
  ·exact hanc _ _ h1 hok
 ·intro x b c
  cases b with
  |head=>exact hr
  |tail _ b=>
   obtain⟨y,d⟩:=hrec x (Sx _ (Sg _ b))
   have a:y.dst=some t:=by simpa[Y0,d]using c
   rcases F.conf ((A++[r]).map (·.i)) (C.map (·.i)++rest) (by rw[hπ];simp) r.i (by simp) x.i (Sk _ (Sh.2 ⟨x,b,rfl⟩)) o y ho d with h1|h1
   ·exact absurd f ((LZ h1).2.2 t a)
   ·cases hLx:L x.i with
    |false=>rfl
    |true=>rw[hanc _ _ h1 (hcl _ hLx)]at hr;cases hr
theorem Rn(F:Facts ops π piv non){σ0:B6}{A C:List Rec}{r:Rec}{rest:List Nat}{L':Nat→Bool}
 (hπ:π=(A++r::C).map (·.i)++rest) (hanc:∀i j,((GJ ops.toList []).getD i 0).testBit j=true→Dr ops L i→L j=true)
 (hcl:∀i,L i=true→Dr ops L i) (hr:L r.i=false) (ho:ops[r.i]?=some o) (hN:∀d,o.dst=some d→d<N)
 (hrec:∀x∈A++r::C,∃y,ops[x.i]?=some y) (hL':∀j,L' j=(L j || decide (j=r.i)))
 (ha:Env N Ds (O4 ops L (A++r::C) σ0) a):Env N Ds (O4 ops L' (A++r::C) σ0) (a.put o.dst r.v):=by
 have g:((A++r::C).map (·.i)).Nodup:=by
  have:=F.nodup;rw[hπ]at this;exact(Ss.1 this).1
 have k:∀x∈C,x.i≠r.i:=by
  intro x l e
  rw[List.map_append,List.map_cons]at g
  have s:=(Ss.1 g).2.1
  exact(List.nodup_cons.1 s).1 (Sh.2 ⟨x,l,e⟩)
 refine⟨by cases o.dst <;> exact ha.defers,by cases o.dst <;> simp[Act.put,ha.size],?_⟩
 intro t v c
 by_cases f:o.dst=some t
 ·have m:Y0 ops r.i=some t:=by simp[Y0,ho,f]
  rw[Z0,O4,hL',hr]at c
  simp only[Bool.false_or,decide_true,if_true]at c
  rw[Dm]at c
  ·rw[m]at c
   simp only[Ce,Bf]at c
   cases c
   simp[Act.put,f,ha.size,hN t f]
  ·intro x l b
   rw[hL',Tg (k x l),Bool.or_false]
   obtain⟨y,q⟩:=hrec x (Sx _ (Sg _ l))
   have n:y.dst=some t:=by simpa[Y0,q]using b
   rcases F.conf ((A++[r]).map (·.i)) (C.map (·.i)++rest) (by rw[hπ];simp) r.i (by simp) x.i (Sk _ (Sh.2 ⟨x,l,rfl⟩)) o y ho q with h1|h1
   ·exact absurd n ((LZ h1).2.1 t f)
   ·cases hLx:L x.i with
    |false=>rfl
    |true=>rw[hanc _ _ h1 (hcl _ hLx)]at hr;cases hr
 ·have u:lk (O4 ops L' (A++r::C) σ0) t=lk (O4 ops L (A++r::C) σ0) t:=by
   refine Bn ops _ _ t _ _ _ rfl ?_
   intro x _ b
   rw[hL']
   have:x.i≠r.i:=fun e=>by rw[e]at b;simp only[Y0,ho,Tz]at b;exact f b
   simp[this]
  rw[u]at c
  have:=ha.get t v c
  cases hdd:o.dst with
  |none=>exact this
  |some d=>
   have p:d≠t:=fun e=>f (by rw[hdd,e])
   simp[Act.put,UA p,this]
theorem A4j(hi:i<listed.size)(hcl:∀j,O0 listed j=true→Dr ops (O0 listed) j)(hok:Dr ops (O0 listed) i):
 ∀j,O0 (listed.setIfInBounds i true) j=true→Dr ops (O0 (listed.setIfInBounds i true)) j:=by
 intro j a o b e c d
 rw[A2f hi]at a⊢
 simp only[Tw,decide_eq_true_eq]at a⊢
 rcases a with a|rfl
 ·exact .inl (hcl j a o b e c d)
 ·exact .inl (hok o b e c d)
theorem A6H(σ0:B6):
 ∀(fuel:Nat) (pre:List Rec) (rest:Plan) (listed:Array Bool) (a:Act) (w:World) (m:Mem) (H:List Ent) (σ:B6),
  listed.size=ops.size→(List.range ops.size).countP (fun i=> !O0 listed i)≤fuel→(∀l∈rest.paths,Facts ops (pre.map (·.i)++l) piv non)→ET (GJ ops.toList []) piv false rest=true→AU ops σ0 pre→O4 ops (fun _=>true) pre σ0=σ→
  (∀i,O0 listed i=true→Dr ops (O0 listed) i)→(∀r∈pre,O0 listed r.i=false→Flo P B N ops piv non m H r)→(∀i∈rest.path,O0 listed i=false)→
  St B m H w→Env N Ds (O4 ops (O0 listed) pre σ0) a→DW0 P B N ops piv non (fun m H σ=>WK0 N Ds B m H σ (Q .normal)) false rest m H σ→
  wpAnyIn (Df M) 0 P .any ops Q fuel listed a w:=by
 intro fuel
 induction fuel with
 |zero=>
  intro pre rest listed a w m H σ hsz hf hF hP hch hsg hcl hflo hun hst hev hdw
  obtain⟨C,π',σ',R,q,k,J,b6,d2,S⟩:=DW0.norm σ0 rest pre m H σ hdw hch hsg _ hP
  have F:=hF _ rest.path_mem
  have hall:∀i,i<ops.size→O0 listed i=true:=by
   intro i hi
   have h0:(List.range ops.size).countP (fun i=> !O0 listed i)=0:=by omega
   have:=List.countP_eq_zero.1 h0 i (SS.2 hi)
   simpa using this
  have a3:rest.path=[]:=by
   cases hp:rest.path with
   |nil=>rfl
   |cons p l=>
    have a9:p∈rest.path:=by rw[hp];exact Sf ..
    have b:=hun p a9
    rw[hall p (F.lt p (Sx _ a9))]at b
    cases b
  rw[a3]at k
  have d6:C=[]:=by
   cases C with
   |nil=>rfl
   |cons r l=>simp at k
  subst d6
  simp only[SO]at q
  refine⟨?_,?_⟩
  ·cases u:Region.ready .any ops listed with
   |nil=>rfl
   |cons i l=>
    have hm:i∈Region.ready .any ops listed:=by rw[u];exact Sf ..
    obtain⟨b,n,_⟩:=PB hm
    have X:=hall i b
    unfold O0 at X
    rw[SH,Ur (by rw[hsz];exact b)]at n X
    simp at n X
    rw[n]at X;cases X
  ·rcases S with⟨_,hK⟩|⟨a6,hpn,_⟩
   ·refine hK w hst a ⟨hev.defers,hev.size,fun t v hv=>hev.get t v ?_⟩
    rw[←q]at hv
    rw[←hv]
    refine Bn ops _ _ t pre _ _ rfl fun r u _=>hall r.i (F.lt _ (Sk _ (Sh.2 ⟨r,u,rfl⟩)))
   ·exfalso
    cases hh:π'.heads with
    |nil=>exact a6 hh
    |cons i l=>
     obtain⟨r,u⟩:=AH (π:=π') (i:=i) (by rw[hh];exact Sf ..)
     have b:=hF _ (J _ (Am u _ r.path_mem))
     have n:=b.nodup
     have X:i<ops.size:=b.lt i (by simp)
     have h4:=F.all i X
     rw[a3,SO]at h4
     have h5:=(Ss.1 n).2.2 i h4 i (by simp)
     exact h5 rfl
 |succ fuel ih=>
  intro pre rest listed a w m H σ hsz hf hF hP hch hsg hcl hflo hun hst hev hdw
  obtain⟨C,π',σ',R,q,k,J,b6,d2,S⟩:=DW0.norm σ0 rest pre m H σ hdw hch hsg _ hP
  have F:Facts ops ((pre++C).map (·.i)++π'.path) piv non:=by
   have:=hF _ rest.path_mem
   rw[k]at this
   simpa using this
  have b4:∀l∈π'.paths,Facts ops ((pre++C).map (·.i)++l) piv non:=fun l G=>by
   have:=hF _ (J l G)
   simpa using this
  have E:∀i j,((GJ ops.toList []).getD i 0).testBit j=true→Dr ops (O0 listed) i→O0 listed j=true:=
   A2p hcl ops.toList [] (by simp) (by simp)
  have c5:∀r∈C,O0 listed r.i=false:=fun r u=>hun r.i (by rw[k];exact Sk _ (Sh.2 ⟨r,u,rfl⟩))
  have a4:∀i∈π'.path,O0 listed i=false:=fun i hi=>hun i (by rw[k];exact Sx _ hi)
  have d:∀r∈pre++C,O0 listed r.i=false→Flo P B N ops piv non m H r:=fun r u G=>by
   rcases Sa.1 u with b|b
   ·exact hflo r b G
   ·exact d2 r b
  have c:Env N Ds (O4 ops (O0 listed) (pre++C) σ0) a:=⟨hev.defers,hev.size,fun t v hv=>hev.get t v (by
   rw[Z0,Dm ops _ t C _ (fun r u _=>c5 r u)]at hv;exact hv)⟩
  have Y:∀x∈pre++C,∃y,ops[x.i]?=some y:=fun x z=>by
   have:=F.lt x.i (Sk _ (Sh.2 ⟨x,z,rfl⟩))
   exact⟨_,Ur this⟩
  refine⟨?_,?_⟩
  ·intro d4
   have hall:∀i∈(pre++C).map (·.i)++π'.path,O0 listed i=true:=by
    intro i hi
    cases G:O0 listed i with
    |true=>rfl
    |false=>
     obtain⟨j,hj,b,o,ho,n⟩:=Kp (L:=O0 listed) _ [] F.lin (by simp) ⟨i,hi,G⟩
     have:j∈Region.ready .any ops listed:=A7V ho (by
      have c6:j<listed.size:=by rw[hsz];exact F.lt j hj
      unfold O0 at b
      rw[SH,Ur c6]at b⊢
      simpa using b) n
     rw[d4]at this;cases this
   have a3:π'.path=[]:=by
    cases hp:π'.path with
    |nil=>rfl
    |cons p l=>
     have a9:p∈π'.path:=by rw[hp];exact Sf ..
     have b:=a4 p a9
     rw[hall p (Sx _ a9)]at b
     cases b
   rcases S with⟨_,hK⟩|⟨a6,hpn,_⟩
   ·refine hK w hst a ⟨c.defers,c.size,fun t v hv=>c.get t v ?_⟩
    rw[←q]at hv
    rw[←hv]
    refine Bn ops _ _ t _ _ _ rfl fun r u _=>hall r.i (Sk _ (Sh.2 ⟨r,u,rfl⟩))
   ·exfalso
    cases hh:π'.heads with
    |nil=>exact a6 hh
    |cons i l=>
     obtain⟨r,u⟩:=AH (π:=π') (i:=i) (by rw[hh];exact Sf ..)
     have b:=b4 _ (Am u _ r.path_mem)
     have n:=b.nodup
     have X:i<ops.size:=b.lt i (by simp)
     have h4:=F.all i X
     rw[a3,SO]at h4
     have h5:=(Ss.1 n).2.2 i h4 i (by simp)
     exact h5 rfl
  ·intro i hi
   obtain⟨b2,d3,V⟩:=PB hi
   have b0:i<listed.size:=by rw[hsz];exact b2
   have Pu:O0 listed i=false:=by
    unfold O0
    rw[SH,Ur b0]at d3⊢
    simpa using d3
   have a0:∀j,O0 (listed.setIfInBounds i true) j=(O0 listed j || decide (j=i)):=A2f b0
   have b8:=A4j (ops:=ops) b0 hcl V
   have b9:(List.range ops.size).countP (fun j=> !O0 (listed.setIfInBounds i true) j)≤fuel:=by
    have:(List.range ops.size).countP (fun j=> !O0 (listed.setIfInBounds i true) j)<(List.range ops.size).countP (fun j=> !O0 listed j):=
     A5z (i:=i) (fun x _ z=>by rw[a0]at z;simp at z ⊢; exact z.1) (SS.2 b2) (by simp[Pu]) (by simp[a0])
    omega
   have c0:(listed.setIfInBounds i true).size=ops.size:=by simp[hsz]
   have a6:∀j,j≠i→O0 (listed.setIfInBounds i true) j=O0 listed j:=fun j hj=>by rw[a0];simp[hj]
   have c7:i∈(pre++C).map (·.i)++π'.path:=F.all i b2
   rcases Sa.1 c7 with hm1|hm1
   ·
     obtain⟨r,u,rfl⟩:=Sh.1 hm1
     obtain⟨A,D,a1⟩:=List.append_of_mem u
     obtain⟨o,ho,c2,K⟩:=d r u Pu
     have hs:r.s=O4 ops (fun _=>true) A σ0:=by
      rw[a1]at R
      exact((AO ops A (r::D) σ0).1 R).2.1
     have b5:(pre++C).map (·.i)++π'.path=(A++r::D).map (·.i)++π'.path:=by rw[←a1]
     have g:∀t∈o.looksAt ops,lk (O4 ops (O0 listed) (pre++C) σ0) t=lk r.s t:=by
      intro t ht
      rw[a1,hs]
      exact Kn F b5 E hcl Pu V ho (by rw[←a1];exact Y) t ht
     have c8:∀w',Ext w w'→wpAnyIn (Df M) 0 P .any ops Q fuel (listed.setIfInBounds r.i true) (a.put o.dst r.v) w':=by
      intro w' z
      refine ih (pre++C) π' _ _ w' m H σ' c0 b9 b4 b6 R q b8 ?_ ?_ (hst.ext z) ?_ ?_
      ·intro O e0 c3
       refine d O e0 ?_
       rw[a0]at c3
       simp only[Bool.or_eq_false_iff]at c3
       exact c3.1
      ·intro j hj
       rw[a6 j (fun e=>by
        subst e
        exact(Ss.1 F.nodup).2.2 r.i (Sh.2 ⟨r,u,rfl⟩) r.i hj rfl)]
       exact a4 j hj
      ·have:=Rn F b5 E hcl Pu ho c2 (by rw[←a1];exact Y) a0 (by rw[←a1];exact c)
       rw[a1];exact this
      ·rcases S with⟨rfl,hK⟩|⟨_,_,hd⟩
       ·exact hK
       ·exact hd
     unfold wpOpIn
     simp only[ho]
     rcases K with⟨hg,hv⟩|⟨hg,I,z,_⟩
     ·rw[Jf c g hg]
      simp only[Bool.false_eq_true,if_false]
      have:=c8 w (Ext.refl w)
      rw[hv]at this;exact⟨fun f _=>BE M f,this⟩
     ·rw[Jf c g hg]
      simp only[if_true]
      refine⟨fun f _=>BE M f,?_⟩
      rw[Oper.semAt_eq _ _ _ z.sel.def,A2w c g z.sel z.defd]
      exact Q6 M (z.run w hst o a _ Q rfl rfl c8)
   ·
     rcases S with⟨rfl,hK⟩|⟨_,hpn,_⟩
     ·cases hm1
     have d7:i∈π'.heads:=by
      have c9:∀j∈π'.heads,piv.contains j=true:=fun j hj=>by
       obtain⟨r,u⟩:=AH hj
       obtain⟨_,_,_,h,_⟩:=hpn j r u
       exact h
      rcases A5F b6 c9 i hm1 with h|⟨h,hh,hb⟩
      ·exact h
      ·have b:=E _ _ hb V
       obtain⟨r,u⟩:=AH hh
       have n:=b4 _ (Am u _ r.path_mem)
       have X:=F.all h (n.lt h (by simp))
       rcases Sa.1 X with h4|h4
       ·exact absurd rfl ((Ss.1 n.nodup).2.2 h h4 h (by simp))
       ·rw[a4 h h4]at b;cases b
     obtain⟨π'',b3⟩:=AH d7
     obtain⟨o,ho,c2,hp,hg,T,ht,hm,b7,hk⟩:=hpn i π'' b3
     have d0:∀l∈π''.paths,Facts ops ((pre++C).map (·.i)++i::l) piv non:=fun l G=>b4 _ (Am b3 l G)
     have F3:=d0 _ π''.path_mem
     have b5:(pre++C).map (·.i)++i::π''.path=((pre++C)++⟨i,σ',undef⟩::([]:List Rec)).map (·.i)++π''.path:=by simp
     have b1:∀v,∀x∈(pre++C)++⟨i,σ',v⟩::([]:List Rec),∃y,ops[x.i]?=some y:=by
      intro v x z
      rcases Sa.1 z with b|b
      ·exact Y x b
      ·simp only[Sp]at b;subst b;exact⟨o,ho⟩
     have c1:∀v,O4 ops (O0 listed) ((pre++C)++[⟨i,σ',v⟩]) σ0=O4 ops (O0 listed) (pre++C) σ0:=by
      intro v;rw[Z0];simp[O4,Pu]
     have g:∀t∈o.looksAt ops,lk (O4 ops (O0 listed) (pre++C) σ0) t=lk σ' t:=by
      intro t e1
      have:=Kn (σ0:=σ0) F3 b5 E hcl Pu V ho (b1 undef) t e1
      rw[c1]at this
      rw[this,q]
     unfold wpOpIn
     simp only[ho]
     rw[Jf c g hg]
     simp only[if_true]
     refine⟨fun f _=>BE M f,?_⟩
     rw[Oper.semAt_eq _ _ _ ht.sel.def,A2w c g ht.sel ht.defd]
     refine ht.run M _ w hst o a _ Q rfl rfl fun v m' H' w' hT c4=>?_
     have d8:(pre++C).map (·.i)++i::π''.path=((pre++C)++[Rec.mk i σ' v]).map (·.i)++π''.path:=by simp
     refine ih ((pre++C)++[⟨i,σ',v⟩]) π'' _ _ w' m' H' (Ce o.dst v σ') c0 b9 (fun l G=>by have:=d0 l G;simpa using this) (NZ b6 b3) ?_ ?_ b8 ?_ ?_ c4 ?_ (hk v m' H' hT)
     ·exact(AO ops _ _ _).2 ⟨R,by rw[q];exact⟨rfl,trivial⟩⟩
     ·rw[Z0,q];simp[O4,Y0,ho]
     ·intro r u G
      rw[a0]at G
      simp only[Bool.or_eq_false_iff]at G
      rcases Sa.1 u with b|b
      ·cases hn:non.contains i with
       |true=>
        have n:=F3.non ((pre++C).map (·.i)) (i::π''.path) rfl r.i (Sh.2 ⟨r,b,rfl⟩) i (Sf ..) hn
        rcases n with n|n|n|n
        ·have X:=E _ _ n V
         rw[X]at G;cases G.1
        rotate_left
        ·obtain⟨o',W,a2,K⟩:=d r b G.1
         exact⟨o',W,a2,K.imp id fun⟨_,I,_⟩=>by rw[n]at I;cases I⟩
        ·obtain⟨o',W,a2,K⟩:=d r b G.1
         exact⟨o',W,a2,K.imp id fun⟨a7,I,z,a5⟩=>⟨a7,I,a5 n m' H' (b7 v m' H' hT),fun hf m2 H2 a8=>a5 hf m2 H2 (Mem.le_trans (b7 v m' H' hT) a8)⟩⟩
        ·obtain⟨o',W,a2,K⟩:=d r b G.1
         unfold A0E at n
         simp only[W]at n
         exact⟨o',W,a2,K.imp id fun⟨a7,I,z,a5⟩=>⟨a7,I,B1g n z hst _ _ _,fun hf m2 H2 a8=>a5 hf m2 H2 (Mem.le_trans (b7 v m' H' hT) a8)⟩⟩
       |false=>
        obtain⟨o',W,a2,K⟩:=d r b G.1
        refine⟨o',W,a2,K.imp id fun⟨a7,I,z,a5⟩=>⟨a7,I,⟨z.sel,z.defd,fun w1 d5=>z.run w1 (hm hn ⟨w,hst⟩ v m' H' hT w1 d5)⟩,fun hf m2 H2 a8=>a5 hf m2 H2 (Mem.le_trans (b7 v m' H' hT) a8)⟩⟩
      ·simp only[Sp]at b
       subst b
       simp at G
     ·intro j hj
      have d1:=F3.nodup
      have d9:j≠i:=fun e=>by
       subst e
       have n:=(Ss.1 d1).2.1
       exact(List.nodup_cons.1 n).1 hj
      rw[a6 j d9]
      have X:=F.all j (F3.lt j (Sx _ (Sg _ hj)))
      rcases Sa.1 X with h4|h4
      ·exact absurd rfl ((Ss.1 d1).2.2 j h4 j (Sg _ hj))
      ·exact a4 j h4
     ·exact Rn F3 (r:=⟨i,σ',v⟩) (C:=[]) d8 E hcl Pu ho c2 (b1 v) a0 (by rw[c1];exact c)
def DW(P:Program)(B:Base)(N:Nat)(ops:Array Oper)(piv non:List Nat)(K:Mem→List Ent→B6→Prop):Bool→Plan→Mem→List Ent→B6→Prop
 |_,.done,m,H,σ=>K m H σ
 |must,.cons i π,m,H,σ=>∃o,ops[i]?=some o∧(∀d,o.dst=some d→d<N)∧
  ((must=false∧N6 ops σ o=some false∧DW P B N ops piv non K false π m H (Ce o.dst undef σ))∨
   (must=false∧N6 ops σ o=some true∧piv.contains i=false∧∃V,OpX P B m H σ o.op o.type V∧(non.contains (i+100000)=true→∀m' H',m.le m'→OpX P B m' H' σ o.op o.type V)∧DW P B N ops piv non K false π m H (Ce o.dst V σ))∨
   (piv.contains i=true∧N6 ops σ o=some true∧∃T,OpTo P B m H σ o.op o.type T∧
    (non.contains i=false→∀v m' H',T v m' H'→m.le m'∧H.Sublist H')∧
    (∀v m' H',T v m' H'→m.le m')∧∀v m' H',T v m' H'→DW P B N ops piv non K false π m' H' (Ce o.dst v σ)))
 |_,.fork p q,m,H,σ=>p.heads≠[]∧DW P B N ops piv non K true p m H σ∧DW P B N ops piv non K true q m H σ
theorem St.less{B:Base}{m':Mem}{w w0:World}(h:St B m' H w)(hle:m.le m')(h0:St B m H w0):St B m H w:=
 {h with
  sub:=fun b o a=>h.sub b o (hle b o a)
  le:=h0.le
  new:=h0.new
  avoid:=fun b a=>by
   cases hm:m b with
   |none=>rfl
   |some o=>have:=h.avoid b a;rw[hle b o hm]at this;cases this}
theorem DW.raw{K:Mem→List Ent→B6→Prop}{R:List Ent}:∀{must:Bool} {π:Plan} {m:Mem} {H:List Ent} {σ:B6},DW P B N ops piv non K must π m H σ→
 DW0 P B N ops piv non (fun m H'' σ=>∃H',H''=H'++R∧K m H' σ) must π m (H++R) σ
 |_,.done,m,H,σ,h=>⟨H,rfl,h⟩
 |_,.fork p q,m,H,σ,⟨h0,h1,h2⟩=>⟨h0,h1.raw,h2.raw⟩
 |_,.cons i π,m,H,σ,h=>by
  obtain⟨o,ho,hd,h|h|h⟩:=h
  ·exact⟨o,ho,hd,.inl ⟨h.1,h.2.1,h.2.2.raw⟩⟩
  ·obtain⟨h0,c,d,V,k,f,b⟩:=h
   exact⟨o,ho,hd,.inr (.inl ⟨h0,c,d,V,k.frame,f,b.raw⟩)⟩
  ·obtain⟨l,c,T,n,r,g,s⟩:=h
   refine⟨o,ho,hd,.inr (.inr ⟨l,c,_,n.frame,?_,fun v m' H'' ⟨H',a,_⟩=>g v m' H' a,?_⟩)⟩
   ·intro t ⟨w0,h0⟩ v m' H'' ⟨H',a,hH⟩ w b
    obtain⟨h1,h2⟩:=r t v m' H' a
    rw[hH]at b
    exact(b.weaken (h2.append_right _)).less h1 h0
   ·intro v m' H'' ⟨H',a,hH⟩
    rw[hH];exact(s v m' H' a).raw
theorem DW0.mono{K K':Mem→List Ent→B6→Prop}(hK:∀m H σ,K m H σ→K' m H σ):∀{must:Bool} {π:Plan} {m:Mem} {H:List Ent} {σ:B6},DW0 P B N ops piv non K must π m H σ→DW0 P B N ops piv non K' must π m H σ
 |_,.done,m,H,σ,h=>hK _ _ _ h
 |_,.fork p q,m,H,σ,⟨h0,h1,h2⟩=>⟨h0,h1.mono hK,h2.mono hK⟩
 |_,.cons i π,m,H,σ,h=>by
  obtain⟨o,ho,hd,h|h|h⟩:=h
  ·exact⟨o,ho,hd,.inl ⟨h.1,h.2.1,h.2.2.mono hK⟩⟩
  ·obtain⟨h0,a,b,V,g,c,k⟩:=h
   exact⟨o,ho,hd,.inr (.inl ⟨h0,a,b,V,g,c,k.mono hK⟩)⟩
  ·obtain⟨l,a,T,n,r,d,s⟩:=h
   exact⟨o,ho,hd,.inr (.inr ⟨l,a,T,n,r,d,fun v m' H' f=>(s v m' H' f).mono hK⟩)⟩
theorem L4{id:Nat}{π:Plan}(piv non:List Nat)(hm:P.follows .mixedOrders=true)(hchk:chk ops π piv non=true)
 (h:DW P B N ops piv non (fun m H σ=>WK N B m H σ (Q .normal)) false π m H σ):WC M P N Q B m H σ (.region id ops true):=by
 intro Ds w b a c
 simp only[chk,SN,Tp]at hchk
 refine wpIn_region_any hm (A6H (M:=M) (Ds:=Ds) (Q:=Q) (non:=non) (piv:=piv) σ ops.size [] π _ a _ m (H++marks Ds) σ (by simp) ?_ (fun l d=>by simpa using A6t (hchk.1 l d)) hchk.2 trivial rfl ?_ (by simp) ?_ (b.ext (Ext.drew w)) c (h.raw.mono ?_))
 rotate_right
 ·rintro m H'' σ ⟨H',rfl,hK⟩ w b a c
  exact hK Ds w b a c
 ·exact Sz List.countP_le_length (by simp)
 ·intro i hi
  unfold O0 at hi
  rw[SH,Array.getElem?_replicate]at hi
  split at hi <;> simp at hi
 ·intro i _
  unfold O0
  rw[SH,Array.getElem?_replicate]
  split <;> rfl
end
end Go.Kx
