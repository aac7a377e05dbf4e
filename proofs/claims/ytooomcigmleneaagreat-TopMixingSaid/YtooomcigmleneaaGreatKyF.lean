import Derived.Test.YtooomcigmleneaaGreatKxU
set_option linter.all false
namespace Go.Kx
open Go
variable{H H':List Ent}{R V:Value→Prop}{b:Nat}{et:TypeId}{j:Nat}{kt:TypeId}{l:List Operand}{m:Mem}{t:TypeId}{ts:Array TypeId}{v:Value}{vs:List Value}{w:World}{x y:Operand}{z:Value}{α:Type}{k:α}
section
variable{P:Program}{B:Base}{m:Mem}{H:List Ent}{σ:B5}{ty:TypeId}
theorem W7{fs:Array Field}(ht:∀w,(underlying t).run P w= .ok (.struct fs) w)(hx:ev σ x=some v):OpX P B m H σ (.makeInterface t x) ty (.iface t v):=
 .ofRun trivial (I8 rfl hx) fun w _ o ho _=>by simp[execOp,ho,A6 hx,Instr.makeInterface,ht]
def B7w:Value→Bool
 | .iface _ _=>true
 |_=>false
theorem B6A{t':TypeId}(hu:P.underlying t=some (.interface (P.methodsAt t)))(hx:ev σ x=some v)(hv:v= .nilIface∨∃d u,v= .iface d u):
 OpX P B m H σ (.binOp .neq t x (.const .nilIface) t') ty (.bool (B7w v)):=
 .ofRun trivial (D0 rfl hx rfl) fun w _ o ho _=>by
  have hy:S2 σ (.const .nilIface)= .nilIface:=rfl
  rcases hv with rfl|⟨d,u,rfl⟩
  ·have h:=run_neq_nil_nil (P:=P) (w:=w) t hu
   simp[execOp,ho,A6 hx,hy,eqGuard,h,B7w]
  ·have h:=run_neq_held_nil (P:=P) (w:=w) t d u hu
   simp[execOp,ho,A6 hx,hy,eqGuard,h,B7w]
def Inv(P:Program)(name:String)(vs:List Value)(m:Mem)(R:Mem→Value→Prop)(v:Value):Prop:=
 ∃t u f u',v= .iface t u∧Enters P f∧(∀w,(method (P.types.size+Made.depth) t u name).run P w= .ok (f,u') w)∧Pure P f (u'::vs).toArray m R
theorem Enters.func{f:FuncId}(h:Enters P f)(args:Array Value)(w:World):(callFunc f args).run P w= .ok (.enter f args) w:=h args w
theorem C7h{r:Operand}{name:String}(hr:ev σ r=some v)(hl:Z5 σ l=some vs):defd σ (.call (Call.mk (.invoke r name) l.toArray ts)):=by
 intro x hx
 have h2:=(A1B hl).2
 simp[Op.operands,Call.operands]at hx
 rcases hx with rfl|hx
 ·exact⟨v,hr⟩
 ·exact h2 x hx
theorem C4u{r:Operand}{name:String}{R:Mem→Value→Prop}(hr:ev σ r=some v)(hl:Z5 σ l=some vs)(hc:Inv P name vs m R v):
 OpTo P B m H σ (.call (Call.mk (.invoke r name) l.toArray ts)) ty (fun v m' H'=>H'=H∧m.le m'∧R m' v):=
 ⟨trivial,C7h hr hl,fun M B w hw o a next Q ho ht k=>M4 M<| by
  obtain⟨t,u,f,u',rfl,hf,hm,hc⟩:=hc
  have h1:=(A1B hl).1
  have h2:=hf (u'::vs).toArray w
  have h3:(execOp (S2 σ) o).run P w= .ok (.enter f (u'::vs).toArray) w:=by
   simp[execOp,ho,resolve,A6 hr]
   rw[show l.map (fun x=>S2 σ x)=vs from h1]
   simp[invoke,callMethod,hm]
   simpa using h2
  rw[h3]
  refine(hc w hw.sub).mono fun e w' hq=>?_
  obtain⟨u,m',H',rfl,hs,hR⟩:=hq
  exact k u m' H w' ⟨rfl,hs.le,hR⟩ (hw.called hs)⟩
def mapE(b:Nat)(α:Type)[Flat α](V:Value→Prop):Ent where
 ids:=[b]
 holds w:=∃es clock,w.heap[b]?=some (.map es clock)∧A3D α es.toList∧∀e∈es.toList,V e.val
 loc w w' h hw:=by rw[h b (List.mem_singleton.2 rfl)];exact hw
 bound w hw b' hb:=by
  have:b'=b:=by simpa using hb
  obtain⟨es,clock,h,_⟩:=hw
  subst this;exact(Array.getElem?_eq_some_iff.1 h).1
def mapS(b:Nat)(α:Type)[Flat α](V:Value→Prop)(k:Int):Ent where
 ids:=[b]
 holds w:=∃es clock,w.heap[b]?=some (.map es clock)∧A3D α es.toList∧(∀e∈es.toList,V e.val)∧∃e∈es.toList,(e.born:Int)=k
 loc w w' h hw:=by rw[h b (List.mem_singleton.2 rfl)];exact hw
 bound w hw b' hb:=by
  have:b'=b:=by simpa using hb
  obtain⟨es,clock,h,_⟩:=hw
  subst this;exact(Array.getElem?_eq_some_iff.1 h).1
def MapM(m:Mem)(b:Nat)(α:Type)[Flat α](V:Value→Prop):Prop:=∃es clock,m b=some (.map es clock)∧A3D α es.toList∧∀e∈es.toList,V e.val
theorem MapM.mono{m':Mem}[Flat α](h:MapM m b α V)(hm:m.le m'):MapM m' b α V:=by
 obtain⟨es,c,h1,h2,h3⟩:=h
 exact⟨es,c,hm _ _ h1,h2,h3⟩
theorem MapM.up [Flat α]{V':Value→Prop}(h:MapM m b α V)(hV:∀v,V v→V' v):MapM m b α V':=by
 obtain⟨es,c,h1,h2,h3⟩:=h
 exact⟨es,c,h1,h2,fun e he=>hV _ (h3 e he)⟩
theorem St.mapM [Flat α](hw:St B m H w)(hH:B2 H j=some (mapE b α V)):MapM (Mem.all w) b α V:=C1 hw hH
theorem St.swap{A C:List Ent}{e e':Ent}{o:Obj}(he:e.ids=[b])(he':e'.ids=[b])(h:St B m (A++e::C) w)(ho:e'.holds (w.putObj b o)):St B m (A++e'::C) (w.putObj b o):=by
 have hb:b<w.heap.size:=e.bound w (h.own e (by simp)) b (by rw[he];simp)
 have:=h.change (k:=A.length) (e:=e) (e':=e') (w':=w.putObj b o) (by
  clear h
  induction A with
  |nil=>rfl
  |cons x A ih=>simpa[B2]using ih) rfl rfl rfl (by simp) (fun c _ hc=>World.putObj_heap_other (by rw[he]at hc;simpa using hc)) ho (by rw[he,he'];intro x hx;exact .inl hx) (by rw[he'];simp)
 have hu:∀A:List Ent,H4 (A++e::C) A.length e'=A++e'::C:=fun A=>by
  induction A with
  |nil=>rfl
  |cons x A ih=>simp[H4,ih]
 rwa [hu]at this
theorem W0(α:Type)[Flat α](V:Value→Prop):OpTo P B m H σ (.makeMap t none) ty (fun u m' H'=>m'=m∧∃b,u= .map (some b)∧H'=mapE b α V::H):=
 .ofRun trivial (by intro x hx;simp[Op.operands]at hx) fun w hw o ho _=>by
  refine⟨.map (some w.heap.size),w.alloc (.map #[] 0),.inl (by simp[execOp,ho,Instr.makeMap,go_sem]),m,_,⟨rfl,_,rfl,rfl⟩,?_⟩
  exact hw.push (Ext.alloc w _) (mapE w.heap.size α V) ⟨#[],0,by show(w.heap.push _)[_]?=_;simp,(by intro e he;simp at he),(by intro e he;simp at he)⟩ (by simp[mapE]) (by simp[mapE])
theorem A5c [Flat α][DecidableEq α](ht:∀w,(underlying t).run P w= .ok (.map kt et) w)(hK:KeyT P kt α)(hz:∀w,(zeroValue et).run P w= .ok z w)
 (hx:ev σ x=some (.map (some b))) (hy:ev σ y=some (.agg (Flat.enc k).toArray)) (hH:B2 H j=some (mapE b α V)) (hV:V z):
 OpTo P B m H σ (.lookup t x y true) ty (fun u m' H'=>H'=H∧m'=m∧∃v q,u= .tuple #[v,.bool q]∧V v):=
 .ofRun trivial (D0 rfl hx hy) fun w hw o ho _=>by
  obtain⟨es,clock,hb,hk,hv⟩:=C1 hw hH
  obtain⟨r,h1,h2⟩:=W9 hK k es.toList hk
  cases r with
  |none=>exact⟨.tuple #[z,.bool false],w,.inl (by simp[execOp,ho,A6 hx,A6 hy,Instr.lookup,ht,I7 hb,hK.chk,h1,hz]),m,H,⟨rfl,rfl,_,_,rfl,hV⟩,hw⟩
  |some p=>
   obtain⟨i,v⟩:=p
   obtain⟨_,e,h3,h4,_⟩:=h2 i v rfl
   exact⟨.tuple #[v,.bool true],w,.inl (by simp[execOp,ho,A6 hx,A6 hy,Instr.lookup,ht,I7 hb,hK.chk,h1]),m,H,⟨rfl,rfl,_,_,rfl,h4▸hv e (List.mem_of_getElem? h3)⟩,hw⟩
theorem T8 [Flat α][DecidableEq α](ht:∀w,(underlying t).run P w= .ok (.map kt et) w)(hK:KeyT P kt α)(hz:∀w,(zeroValue et).run P w= .ok z w)
 (hx:ev σ x=some (.map (some b))) (hy:ev σ y=some (.agg (Flat.enc k).toArray)) (hH:B2 H j=some (mapE b α V)) (hV:V z):
 OpTo P B m H σ (.lookup t x y false) ty (fun u m' H'=>H'=H∧m'=m∧V u):=
 .ofRun trivial (D0 rfl hx hy) fun w hw o ho _=>by
  obtain⟨es,clock,hb,hk,hv⟩:=C1 hw hH
  obtain⟨r,h1,h2⟩:=W9 hK k es.toList hk
  cases r with
  |none=>exact⟨z,w,.inl (by simp[execOp,ho,A6 hx,A6 hy,Instr.lookup,ht,I7 hb,hK.chk,h1,hz]),m,H,⟨rfl,rfl,hV⟩,hw⟩
  |some p=>
   obtain⟨i,v⟩:=p
   obtain⟨_,e,h3,h4,_⟩:=h2 i v rfl
   exact⟨v,w,.inl (by simp[execOp,ho,A6 hx,A6 hy,Instr.lookup,ht,I7 hb,hK.chk,h1]),m,H,⟨rfl,rfl,h4▸hv e (List.mem_of_getElem? h3)⟩,hw⟩
theorem B1x [Flat α][DecidableEq α](ht:∀w,(underlying t).run P w= .ok (.map kt et) w)(hK:KeyT P kt α)(hz:∀w,(zeroValue et).run P w= .ok z w)
 (hx:ev σ x=some (.map (some b))) (hy:ev σ y=some (.agg (Flat.enc k).toArray)) (hM:MapM m b α V) (hV:V z):
 E P B m H σ (.lookup t x y false) ty (fun u:Value=>u) (fun u=>V u):=by
 obtain⟨es,clock,hb,hk,hv⟩:=hM
 obtain⟨r,h1,h2⟩:=W9 hK k es.toList hk
 cases r with
 |none=>exact⟨z,.ofRun trivial (D0 rfl hx hy) fun w hw o ho _=>by simp[execOp,ho,A6 hx,A6 hy,Instr.lookup,ht,I7 (hw.sub _ _ hb),hK.chk,h1,hz],hV⟩
 |some p=>
  obtain⟨i,v⟩:=p
  obtain⟨_,e,h3,h4,_⟩:=h2 i v rfl
  exact⟨v,.ofRun trivial (D0 rfl hx hy) fun w hw o ho _=>by simp[execOp,ho,A6 hx,A6 hy,Instr.lookup,ht,I7 (hw.sub _ _ hb),hK.chk,h1],h4▸hv e (List.mem_of_getElem? h3)⟩
theorem K1{u:Operand}[Flat α][DecidableEq α](ht:∀w,(underlying t).run P w= .ok (.map kt et) w)(hK:KeyT P kt α)
 (hx:ev σ x=some (.map (some b))) (hy:ev σ y=some (.agg (Flat.enc k).toArray)) (hu:ev σ u=some v) (hH:B2 H j=some (mapE b α V)) (hV:V v):
 OpTo P B m H σ (.mapUpdate t x y u) ty (fun _ m' H'=>H'=H∧m'=m):=
 .ofRun trivial (A9B rfl hx hy hu) fun w hw o ho _=>by
  obtain⟨es,clock,hb,hk,hv⟩:=C1 hw hH
  obtain⟨r,h1,h2⟩:=W9 hK k es.toList hk
  obtain⟨A,C,rfl,hup,_⟩:=U4 hH
  have hlt:b<w.heap.size:=(Array.getElem?_eq_some_iff.1 hb).1
  cases r with
  |none=>
   refine⟨undef,w.putObj b (.map (es.push {key:=.agg (Flat.enc k).toArray,val:=v,born:=clock}) (clock+1)),.inr ⟨?_,rfl⟩,m,_,⟨rfl,rfl⟩,hw.swap rfl rfl ⟨_,_,World.putObj_heap_same hlt,fun e he=>?_,fun e he=>?_⟩⟩
   ·simp[execOp,ho,A6 hx,A6 hy,A6 hu,Instr.mapUpdate,ht,I7 hb,hK.chk,h1,A0B _ hb]
   ·rcases(by simpa using he:e∈es∨e=_)with h3|rfl
    ·exact hk e (by simpa using h3)
    ·exact⟨k,rfl⟩
   ·rcases(by simpa using he:e∈es∨e=_)with h3|rfl
    ·exact hv e (by simpa using h3)
    ·exact hV
  |some p=>
   obtain⟨i,v0⟩:=p
   obtain⟨_,e1,h3,_,h4⟩:=h2 i v0 rfl
   have hold:((es[i]?).map (·.key)).getD (.agg (Flat.enc k).toArray)= .agg (Flat.enc k).toArray:=by
    rw[Nat.sub_zero,Array.getElem?_toList]at h3
    rw[h3];exact h4
   refine⟨undef,w.putObj b (.map (es.modify i fun e=>{e with key:=.agg (Flat.enc k).toArray,val:=v}) clock),.inr ⟨?_,rfl⟩,m,_,⟨rfl,rfl⟩,hw.swap rfl rfl ⟨_,_,World.putObj_heap_same hlt,fun e he=>?_,fun e he=>?_⟩⟩
   ·simp[execOp,ho,A6 hx,A6 hy,A6 hu,Instr.mapUpdate,ht,I7 hb,hK.chk,h1,hold,Instr.keyThatStays,hK.bits,A0B _ hb]
   ·rw[Array.toList_modify]at he
    rcases A0a he with h5|⟨e0,h5,rfl⟩
    ·exact hk e h5
    ·exact⟨k,rfl⟩
   ·rw[Array.toList_modify]at he
    rcases A0a he with h5|⟨e0,h5,rfl⟩
    ·exact hv e h5
    ·exact hV
theorem C1y{es:List MapEntry}{i:Nat}{f:MapEntry→MapEntry}{e:MapEntry}(hf:∀e,(f e).born=e.born)(h:e∈es):∃e'∈es.modify i f,e'.born=e.born:=by
 obtain⟨j,hj⟩:=List.mem_iff_getElem?.1 h
 by_cases hij:i=j
 ·exact⟨f e,List.mem_iff_getElem?.2 ⟨j,by rw[List.getElem?_modify,hj];simp[hij]⟩,hf e⟩
 ·exact⟨e,List.mem_iff_getElem?.2 ⟨j,by rw[List.getElem?_modify,hj];simp[hij]⟩,rfl⟩
theorem A5s [Flat α][DecidableEq α](ht:∀w,(underlying t).run P w= .ok (.map kt et) w)(hK:KeyT P kt α)(hz:∀w,(zeroValue et).run P w= .ok z w)
 (hx:ev σ x=some (.map (some b))) (hy:ev σ y=some (.agg (Flat.enc k).toArray)) (hH:B2 H j=some (mapE b α V)) (hV:V z):
 OpTo P B m H σ (.mapEntry t x y) ty (fun u m' H'=>m'=m∧∃v s,u= .tuple #[v,.int .i64 s]∧V v∧H'=H4 H j (mapS b α V s)):=
 .ofRun trivial (D0 rfl hx hy) fun w hw o ho _=>by
  obtain⟨es,clock,hb,hk,hv⟩:=C1 hw hH
  obtain⟨r,h1,h2⟩:=W9 hK k es.toList hk
  obtain⟨A,C,rfl,hup,_⟩:=U4 hH
  have hlt:b<w.heap.size:=(Array.getElem?_eq_some_iff.1 hb).1
  cases r with
  |none=>
   refine⟨.tuple #[z,.int .i64 clock],w.putObj b (.map (es.push {key:=.agg (Flat.enc k).toArray,val:=z,born:=clock}) (clock+1)),.inl ?_,m,_,⟨rfl,z,clock,rfl,hV,rfl⟩,?_⟩
   ·simp[execOp,ho,A6 hx,A6 hy,Instr.mapEntry,ht,I7 hb,hK.chk,h1,A0B _ hb,hz,goInt]
   rw[hup]
   refine hw.swap rfl rfl ⟨_,_,World.putObj_heap_same hlt,fun e he=>?_,fun e he=>?_,⟨_,by simp;exact .inr rfl,rfl⟩⟩
   ·rcases(by simpa using he:e∈es∨e=_)with h3|rfl
    ·exact hk e (by simpa using h3)
    ·exact⟨k,rfl⟩
   ·rcases(by simpa using he:e∈es∨e=_)with h3|rfl
    ·exact hv e (by simpa using h3)
    ·exact hV
  |some p=>
   obtain⟨i,v0⟩:=p
   obtain⟨_,e1,h3,h4,h5⟩:=h2 i v0 rfl
   rw[Nat.sub_zero]at h3
   have hm1:=List.mem_of_getElem? h3
   rw[Array.getElem?_toList]at h3
   refine⟨.tuple #[v0,.int .i64 e1.born],w.putObj b (.map (es.modify i fun e=>{e with key:=.agg (Flat.enc k).toArray}) clock),.inl ?_,m,_,⟨rfl,v0,e1.born,rfl,h4▸hv e1 hm1,rfl⟩,?_⟩
   ·simp[execOp,ho,A6 hx,A6 hy,Instr.mapEntry,ht,I7 hb,hK.chk,h1,h3,h5,Instr.keyThatStays,hK.bits,A0B _ hb,goInt]
   rw[hup]
   refine hw.swap rfl rfl ⟨_,_,World.putObj_heap_same hlt,fun e he=>?_,fun e he=>?_,?_⟩
   ·rw[Array.toList_modify]at he
    rcases A0a he with h6|⟨e0,h6,rfl⟩
    ·exact hk e h6
    ·exact⟨k,rfl⟩
   ·rw[Array.toList_modify]at he
    rcases A0a he with h6|⟨e0,h6,rfl⟩
    ·exact hv e h6
    ·exact hv e0 h6
   ·rw[Array.toList_modify]
    obtain⟨e2,h7,h8⟩:=C1y (i:=i) (f:=fun e:MapEntry=>{e with key:=.agg (Flat.enc k).toArray}) (fun _=>rfl) hm1
    exact⟨e2,h7,by rw[h8]⟩
theorem A3I{u:Operand}[Flat α]{s:Int}
 (hx:ev σ x=some (.map (some b))) (hy:ev σ y=some (.int .i64 s)) (hu:ev σ u=some v) (hH:B2 H j=some (mapS b α V s)) (hV:V v):
 OpTo P B m H σ (.entryStore t x y u) ty (fun _ m' H'=>m'=m∧H'=H4 H j (mapE b α V)):=
 .ofRun trivial (A9B rfl hx hy hu) fun w hw o ho _=>by
  obtain⟨es,clock,hb,hk,hv,e1,he1,hs⟩:=C1 hw hH
  obtain⟨A,C,rfl,hup,_⟩:=U4 hH
  have hlt:b<w.heap.size:=(Array.getElem?_eq_some_iff.1 hb).1
  obtain⟨i,hi⟩:∃i,es.findIdx? (fun e=>(e.born:Int) == s)=some i:=by
   cases hq:es.findIdx? (fun e=>(e.born:Int) == s)with
   |some i=>exact⟨i,rfl⟩
   |none=>
    rw[Array.findIdx?_eq_none_iff]at hq
    have:=hq e1 (by simpa using he1)
    simp[hs]at this
  refine⟨undef,w.putObj b (.map (es.modify i fun e=>{e with val:=v}) clock),.inr ⟨?_,rfl⟩,m,_,⟨rfl,rfl⟩,?_⟩
  ·simp[execOp,ho,A6 hx,A6 hy,A6 hu,Instr.entryStore,I7 hb,asInt,asIntOf,hi,A0B _ hb]
  rw[hup]
  refine hw.swap rfl rfl ⟨_,_,World.putObj_heap_same hlt,fun e he=>?_,fun e he=>?_⟩
  ·rw[Array.toList_modify]at he
   rcases A0a he with h6|⟨e0,h6,rfl⟩
   ·exact hk e h6
   ·exact hk e0 h6
  ·rw[Array.toList_modify]at he
   rcases A0a he with h6|⟨e0,h6,rfl⟩
   ·exact hv e h6
   ·exact hV
end
inductive WkL:List Ent→List Ent→Prop
 |nil:WkL [] []
 |cons {e e':Ent} {H H':List Ent} (hi:e'.ids=e.ids) (hh:∀w,e.holds w→e'.holds w) (h:WkL H' H):WkL (e'::H') (e::H)
theorem WkL.refl:∀H:List Ent,WkL H H
 | []=>.nil
 |_::H=>.cons rfl (fun _ h=>h) (WkL.refl H)
theorem T0{e:Ent}(h:WkL H' H):WkL (e::H') (e::H):=.cons rfl (fun _ h=>h) h
theorem WkL.ids(h:WkL H' H):B7 H'=B7 H:=by
 induction h with
 |nil=>rfl
 |cons hi _ _ ih=>simp only[B7,hi,ih]
theorem WkL.own(h:WkL H' H)(ho:∀e∈H,e.holds w):∀e∈H',e.holds w:=by
 induction h with
 |nil=>exact ho
 |cons hi hh _ ih=>
  intro e he
  rcases List.mem_cons.1 he with rfl|he
  ·exact hh _ (ho _ (List.mem_cons_self ..))
  ·exact ih (fun e he=>ho e (List.mem_cons_of_mem _ he)) e he
theorem WkL.append(h:WkL H' H)(R:List Ent):WkL (H'++R) (H++R):=by
 induction h with
 |nil=>exact WkL.refl R
 |cons hi hh _ ih=>exact .cons hi hh ih
theorem St.wk{B:Base}(hw:St B m H w)(h:WkL H' H):St B m H' w:=
 {hw with own:=h.own hw.own,ids:=by rw[h.ids];exact hw.ids,avoid:=by rw[h.ids];exact hw.avoid,nodup:=by rw[h.ids];exact hw.nodup}
section
variable{M:Option Nat}{P:Program}{N:Nat}{ops:Array Oper}{Q:Exit→Act→World→Prop}{B:Base}{m:Mem}{H:List Ent}{σ:B5}{rest:List Oper}
 {d:Nat} {op:Op} {ty:TypeId} {pos:String} {after:Array Edge} {K:Act→World→Prop} {i:Nat} {must:Bool} {π:Plan} {piv non:List Nat} {KK:Mem→List Ent→B5→Prop} {g:Option (Nat×Bool)}
theorem WK.wk{H':List Ent}(h:WkL H' H)(k:WK N B m H' σ K):WK N B m H σ K:=fun Ds w hw a ha=>k Ds w (hw.wk (h.append _)) a ha
theorem mapE.up [Flat α]{V':Value→Prop}(hV:∀v,V v→V' v)(h:WkL H' H):WkL (mapE b α V'::H') (mapE b α V::H):=
 .cons rfl (fun _ ⟨es,c,h1,h2,h3⟩=>⟨es,c,h1,h2,fun e he=>hV _ (h3 e he)⟩) h
theorem A4w [Flat α](k:Nat)(hX:B.X=[])(hH:B2 H k=some (mapE b α V))(kk:∀m',m.le m'→MapM m' b α V→WK N B m' (Z4 H k) σ K):WK N B m H σ K:=by
 intro Ds w hw a ha
 obtain⟨es,c,h3,h4,h5⟩:=C1 hw (U3 hH)
 obtain⟨h1,h2⟩:=hw.freeze hX (U3 hH)
 rw[B1o hH]at h1
 exact kk _ h2 ⟨es,c,by simp[mapE,h3],h4,h5⟩ Ds w h1 a ha
theorem C6Y(h:OpTo P B m H σ op ty (fun v m' H'=>H'=H∧m'=m∧R v))(hd:d<N)(k:∀v,R v→WL M P N ops Q B m H ((d,v)::σ) rest):
 WL M P N ops Q B m H σ (⟨some d,op,ty,pos,after,none⟩::rest):=
 O4 h hd fun v m' H' ⟨h1,h2,h3⟩=>by subst h1;subst h2;exact k v h3
theorem C6s(h:OpTo P B m H σ op ty (fun _ m' H'=>H'=H∧m'=m))(k:WL M P N ops Q B m H σ rest):WL M P N ops Q B m H σ (⟨none,op,ty,pos,after,none⟩::rest):=
 B3g h fun _ m' H' ⟨h1,h2⟩=>by subst h1;subst h2;exact k
theorem A0U(ho:ops[i]?=some ⟨some d,op,ty,pos,after,g⟩)(hp:piv.contains i=true)(hg:M6 ops σ ⟨some d,op,ty,pos,after,g⟩=some true)
 (h:OpTo P B m H σ op ty (fun v m' H'=>H'=H∧m'=m∧R v)) (hd:d<N) (k:∀v,R v→DW P B N ops piv non KK false π m H ((d,v)::σ)):DW P B N ops piv non KK must (.cons i π) m H σ:=
 A1A ho hp hg h hd (fun _ v m' H' ⟨h1,h2,_⟩=>by subst h1;subst h2;exact⟨Mem.le_refl _,List.Sublist.refl _⟩) (fun _ _ _ h=>by rw[h.2.1];exact Mem.le_refl _) fun v m' H' ⟨h1,h2,h3⟩=>by subst h1;subst h2;exact k v h3
theorem A0N(ho:ops[i]?=some ⟨none,op,ty,pos,after,g⟩)(hp:piv.contains i=true)(hg:M6 ops σ ⟨none,op,ty,pos,after,g⟩=some true)
 (h:OpTo P B m H σ op ty (fun _ m' H'=>H'=H∧m'=m)) (k:DW P B N ops piv non KK false π m H σ):DW P B N ops piv non KK must (.cons i π) m H σ:=
 ⟨_,ho,(fun e he=>by cases he),.inr (.inr ⟨hp,hg,_,h,(fun _ v m' H' ⟨h1,h2⟩=>by subst h1;subst h2;exact⟨Mem.le_refl _,List.Sublist.refl _⟩),(fun _ _ _ h=>by rw[h.2];exact Mem.le_refl _),fun v m' H' ⟨h1,h2⟩=>by subst h1;subst h2;exact k⟩)⟩
theorem C8Q{f:FuncId}(hf:Enters P f)(hl:Z5 σ l=some vs)(hc:∀(B:Base) w,St B m H w→Pure P f vs.toArray (Mem.all w) (fun _ v=>R v)):
 OpTo P B m H σ (.call (Call.mk (.value (.func f)) l.toArray ts)) ty (fun v m' H'=>H'=H∧m'=m∧R v):=
 ⟨trivial,A0j rfl hl,fun M B w hw o a next Q ho ht kk=>M4 M<| by
  rw[A1l hf hl w o ho]
  refine(hc B w hw w (fun _ _ h=>h)).mono fun e w' hr=>?_
  have hx:=Ret.ext hr rfl
  obtain⟨u,m',H',rfl,hs,hR⟩:=hr
  exact kk u m H w' ⟨rfl,rfl,hR⟩ (hw.ext hx)⟩
end
end Go.Kx
