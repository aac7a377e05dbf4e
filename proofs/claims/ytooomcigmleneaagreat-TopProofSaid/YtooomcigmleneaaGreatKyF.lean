import Derived.Test.YtooomcigmleneaaGreatKxU
set_option linter.all false
namespace Go.Kx
open Go
variable{H H':List Ent}{R V:Value→Prop}{b:Nat}{et:TypeId}{j:Nat}{kt:TypeId}{l:List Operand}{m:Mem}{t:TypeId}{ts:Array TypeId}{v:Value}{vs:List Value}{w:World}{x y:Operand}{z:Value}{α:Type}{k:α}
section
variable{P:Program}{B:Base}{m:Mem}{H:List Ent}{σ:B6}{ty:TypeId}
theorem S3{fs:Array Field}(ht:∀w,(underlying t).run P w= .ok (.struct fs) w)(hx:ev σ x=some v):OpX P B m H σ (.makeInterface t x) ty (.iface t v):=
 .ofRun trivial (L6 rfl hx) fun w _ o a _=>by simp[execOp,a,A6 hx,Instr.makeInterface,ht]
def A3Y:Value→Bool
 | .iface _ _=>true
 |_=>false
theorem A3C{t':TypeId}(hu:P.underlying t=some (.interface (P.methodsAt t)))(hx:ev σ x=some v)(hv:v= .nilIface∨∃d u,v= .iface d u):
 OpX P B m H σ (.binOp .neq t x (.const .nilIface) t') ty (.bool (A3Y v)):=
 .ofRun trivial (D1 rfl hx rfl) fun w _ o a _=>by
  have b:T4 σ (.const .nilIface)= .nilIface:=rfl
  rcases hv with rfl|⟨d,u,rfl⟩
  ·have h:=run_neq_nil_nil (P:=P) (w:=w) t hu
   simp[execOp,a,A6 hx,b,eqGuard,h,A3Y]
  ·have h:=run_neq_held_nil (P:=P) (w:=w) t d u hu
   simp[execOp,a,A6 hx,b,eqGuard,h,A3Y]
def Inv(P:Program)(name:String)(vs:List Value)(m:Mem)(R:Mem→Value→Prop)(v:Value):Prop:=
 ∃t u f u',v= .iface t u∧Enters P f∧(∀w,(method (P.types.size+Made.depth) t u name).run P w= .ok (f,u') w)∧Pure P f (u'::vs).toArray m R
theorem Enters.func{f:FuncId}(h:Enters P f)(args:Array Value)(w:World):(callFunc f args).run P w= .ok (.enter f args) w:=h args w
theorem B6g{r:Operand}{name:String}(hr:ev σ r=some v)(hl:AS σ l=some vs):defd σ (.call (Call.mk (.invoke r name) l.toArray ts)):=by
 intro x a
 have b:=(Ci hl).2
 simp[Op.operands,Call.operands]at a
 rcases a with rfl|a
 ·exact⟨v,hr⟩
 ·exact b x a
theorem Hd{r:Operand}{name:String}{R:Mem→Value→Prop}(hr:ev σ r=some v)(hl:AS σ l=some vs)(hc:Inv P name vs m R v):
 OpTo P B m H σ (.call (Call.mk (.invoke r name) l.toArray ts)) ty (fun v m' H'=>H'=H∧m.le m'∧R m' v):=
 ⟨trivial,B6g hr hl,fun M B w b o a next Q d A k=>Q6 M<| by
  obtain⟨t,u,f,u',rfl,s,y,hc⟩:=hc
  have n:=(Ci hl).1
  have p:=s (u'::vs).toArray w
  have q:(execOp (T4 σ) o).run P w= .ok (.enter f (u'::vs).toArray) w:=by
   simp[execOp,d,resolve,A6 hr]
   rw[show l.map (fun x=>T4 σ x)=vs from n]
   simp[invoke,callMethod,y]
   simpa using p
  rw[q]
  refine(hc w b.sub).mono fun e w' g=>?_
  obtain⟨u,m',H',rfl,c,z⟩:=g
  exact k u m' H w' ⟨rfl,c.le,z⟩ (b.called c)⟩
def mapE(b:Nat)(α:Type)[Flat α](V:Value→Prop):Ent where
 ids:=[b]
 holds w:=∃es clock,w.heap[b]?=some (.map es clock)∧Bp α es.toList∧∀e∈es.toList,V e.val
 loc w w' h hw:=by rw[h b (Sp.2 rfl)];exact hw
 bound w hw b' hb:=by
  have:b'=b:=by simpa using hb
  obtain⟨es,clock,h,_⟩:=hw
  subst this;exact(SA.1 h).1
def mapS(b:Nat)(α:Type)[Flat α](V:Value→Prop)(k:Int):Ent where
 ids:=[b]
 holds w:=∃es clock,w.heap[b]?=some (.map es clock)∧Bp α es.toList∧(∀e∈es.toList,V e.val)∧∃e∈es.toList,(e.born:Int)=k
 loc w w' h hw:=by rw[h b (Sp.2 rfl)];exact hw
 bound w hw b' hb:=by
  have:b'=b:=by simpa using hb
  obtain⟨es,clock,h,_⟩:=hw
  subst this;exact(SA.1 h).1
def MapM(m:Mem)(b:Nat)(α:Type)[Flat α](V:Value→Prop):Prop:=∃es clock,m b=some (.map es clock)∧Bp α es.toList∧∀e∈es.toList,V e.val
theorem MapM.mono{m':Mem}[Flat α](h:MapM m b α V)(hm:m.le m'):MapM m' b α V:=by
 obtain⟨es,c,a,d,f⟩:=h
 exact⟨es,c,hm _ _ a,d,f⟩
theorem MapM.up [Flat α]{V':Value→Prop}(h:MapM m b α V)(hV:∀v,V v→V' v):MapM m b α V':=by
 obtain⟨es,c,d,f,g⟩:=h
 exact⟨es,c,d,f,fun e a=>hV _ (g e a)⟩
theorem St.mapM [Flat α](hw:St B m H w)(hH:A7 H j=some (mapE b α V)):MapM (Mem.all w) b α V:=C3 hw hH
theorem St.swap{A C:List Ent}{e e':Ent}{o:Obj}(he:e.ids=[b])(he':e'.ids=[b])(h:St B m (A++e::C) w)(ho:e'.holds (w.putObj b o)):St B m (A++e'::C) (w.putObj b o):=by
 have g:b<w.heap.size:=e.bound w (h.own e (by simp)) b (by rw[he];simp)
 have:=h.change (k:=A.length) (e:=e) (e':=e') (w':=w.putObj b o) (by
  clear h
  induction A with
  |nil=>rfl
  |cons x A ih=>simpa[A7]using ih) rfl rfl rfl (by simp) (fun c _ a=>World.putObj_heap_other (by rw[he]at a;simpa using a)) ho (by rw[he,he'];intro x f;exact .inl f) (by rw[he'];simp)
 have d:∀A:List Ent,H4 (A++e::C) A.length e'=A++e'::C:=fun A=>by
  induction A with
  |nil=>rfl
  |cons x A ih=>simp[H4,ih]
 rwa [d]at this
theorem Y4(α:Type)[Flat α](V:Value→Prop):OpTo P B m H σ (.makeMap t none) ty (fun u m' H'=>m'=m∧∃b,u= .map (some b)∧H'=mapE b α V::H):=
 .ofRun trivial (by intro x f;simp[Op.operands]at f) fun w c o d _=>by
  refine⟨.map (some w.heap.size),w.alloc (.map #[] 0),.inl (by simp[execOp,d,Instr.makeMap,go_sem]),m,_,⟨rfl,_,rfl,rfl⟩,?_⟩
  exact c.push (Ext.alloc w _) (mapE w.heap.size α V) ⟨#[],0,by show(w.heap.push _)[_]?=_;simp,(by intro e a;simp at a),(by intro e a;simp at a)⟩ (by simp[mapE]) (by simp[mapE])
theorem Gn [Flat α][DecidableEq α](ht:∀w,(underlying t).run P w= .ok (.map kt et) w)(hK:KeyT P kt α)(hz:∀w,(zeroValue et).run P w= .ok z w)
 (hx:ev σ x=some (.map (some b))) (hy:ev σ y=some (.agg (Flat.enc k).toArray)) (hH:A7 H j=some (mapE b α V)) (hV:V z):
 OpTo P B m H σ (.lookup t x y true) ty (fun u m' H'=>H'=H∧m'=m∧∃v q,u= .tuple #[v,.bool q]∧V v):=
 .ofRun trivial (D1 rfl hx hy) fun w a o c _=>by
  obtain⟨es,clock,d,g,l⟩:=C3 a hH
  obtain⟨r,f,n⟩:=Y7 hK k es.toList g
  cases r with
  |none=>exact⟨.tuple #[z,.bool false],w,.inl (by simp[execOp,c,A6 hx,A6 hy,Instr.lookup,ht,I4 d,hK.chk,f,hz]),m,H,⟨rfl,rfl,_,_,rfl,hV⟩,a⟩
  |some p=>
   obtain⟨i,v⟩:=p
   obtain⟨_,e,s,A,_⟩:=n i v rfl
   exact⟨.tuple #[v,.bool true],w,.inl (by simp[execOp,c,A6 hx,A6 hy,Instr.lookup,ht,I4 d,hK.chk,f]),m,H,⟨rfl,rfl,_,_,rfl,A▸l e (Ta s)⟩,a⟩
theorem V2 [Flat α][DecidableEq α](ht:∀w,(underlying t).run P w= .ok (.map kt et) w)(hK:KeyT P kt α)(hz:∀w,(zeroValue et).run P w= .ok z w)
 (hx:ev σ x=some (.map (some b))) (hy:ev σ y=some (.agg (Flat.enc k).toArray)) (hH:A7 H j=some (mapE b α V)) (hV:V z):
 OpTo P B m H σ (.lookup t x y false) ty (fun u m' H'=>H'=H∧m'=m∧V u):=
 .ofRun trivial (D1 rfl hx hy) fun w a o c _=>by
  obtain⟨es,clock,d,g,l⟩:=C3 a hH
  obtain⟨r,f,n⟩:=Y7 hK k es.toList g
  cases r with
  |none=>exact⟨z,w,.inl (by simp[execOp,c,A6 hx,A6 hy,Instr.lookup,ht,I4 d,hK.chk,f,hz]),m,H,⟨rfl,rfl,hV⟩,a⟩
  |some p=>
   obtain⟨i,v⟩:=p
   obtain⟨_,e,q,s,_⟩:=n i v rfl
   exact⟨v,w,.inl (by simp[execOp,c,A6 hx,A6 hy,Instr.lookup,ht,I4 d,hK.chk,f]),m,H,⟨rfl,rfl,s▸l e (Ta q)⟩,a⟩
theorem Pl [Flat α][DecidableEq α](ht:∀w,(underlying t).run P w= .ok (.map kt et) w)(hK:KeyT P kt α)(hz:∀w,(zeroValue et).run P w= .ok z w)
 (hx:ev σ x=some (.map (some b))) (hy:ev σ y=some (.agg (Flat.enc k).toArray)) (hM:MapM m b α V) (hV:V z):
 E P B m H σ (.lookup t x y false) ty (fun u:Value=>u) (fun u=>V u):=by
 obtain⟨es,clock,d,g,l⟩:=hM
 obtain⟨r,f,n⟩:=Y7 hK k es.toList g
 cases r with
 |none=>exact⟨z,.ofRun trivial (D1 rfl hx hy) fun w a o c _=>by simp[execOp,c,A6 hx,A6 hy,Instr.lookup,ht,I4 (a.sub _ _ d),hK.chk,f,hz],hV⟩
 |some p=>
  obtain⟨i,v⟩:=p
  obtain⟨_,e,q,s,_⟩:=n i v rfl
  exact⟨v,.ofRun trivial (D1 rfl hx hy) fun w a o c _=>by simp[execOp,c,A6 hx,A6 hy,Instr.lookup,ht,I4 (a.sub _ _ d),hK.chk,f],s▸l e (Ta q)⟩
theorem M2{u:Operand}[Flat α][DecidableEq α](ht:∀w,(underlying t).run P w= .ok (.map kt et) w)(hK:KeyT P kt α)
 (hx:ev σ x=some (.map (some b))) (hy:ev σ y=some (.agg (Flat.enc k).toArray)) (hu:ev σ u=some v) (hH:A7 H j=some (mapE b α V)) (hV:V v):
 OpTo P B m H σ (.mapUpdate t x y u) ty (fun _ m' H'=>H'=H∧m'=m):=
 .ofRun trivial (JM rfl hx hy hu) fun w l o q _=>by
  obtain⟨es,clock,g,n,s⟩:=C3 l hH
  obtain⟨r,z,D⟩:=Y7 hK k es.toList n
  obtain⟨A,C,rfl,E,_⟩:=N0 hH
  have d:b<w.heap.size:=(SA.1 g).1
  cases r with
  |none=>
   refine⟨undef,w.putObj b (.map (es.push {key:=.agg (Flat.enc k).toArray,val:=v,born:=clock}) (clock+1)),.inr ⟨?_,rfl⟩,m,_,⟨rfl,rfl⟩,l.swap rfl rfl ⟨_,_,World.putObj_heap_same d,fun e a=>?_,fun e a=>?_⟩⟩
   ·simp[execOp,q,A6 hx,A6 hy,A6 hu,Instr.mapUpdate,ht,I4 g,hK.chk,z,Y5 _ g]
   ·rcases(by simpa using a:e∈es∨e=_)with c|rfl
    ·exact n e (by simpa using c)
    ·exact⟨k,rfl⟩
   ·rcases(by simpa using a:e∈es∨e=_)with c|rfl
    ·exact s e (by simpa using c)
    ·exact hV
  |some p=>
   obtain⟨i,F⟩:=p
   obtain⟨_,I,c,_,G⟩:=D i F rfl
   have f:((es[i]?).map (·.key)).getD (.agg (Flat.enc k).toArray)= .agg (Flat.enc k).toArray:=by
    rw[Ts,Uw]at c
    rw[c];exact G
   refine⟨undef,w.putObj b (.map (es.modify i fun e=>{e with key:=.agg (Flat.enc k).toArray,val:=v}) clock),.inr ⟨?_,rfl⟩,m,_,⟨rfl,rfl⟩,l.swap rfl rfl ⟨_,_,World.putObj_heap_same d,fun e a=>?_,fun e a=>?_⟩⟩
   ·simp[execOp,q,A6 hx,A6 hy,A6 hu,Instr.mapUpdate,ht,I4 g,hK.chk,z,f,Instr.keyThatStays,hK.bits,Y5 _ g]
   ·rw[Te]at a
    rcases X6 a with h5|⟨e0,h5,rfl⟩
    ·exact n e h5
    ·exact⟨k,rfl⟩
   ·rw[Te]at a
    rcases X6 a with h5|⟨e0,h5,rfl⟩
    ·exact s e h5
    ·exact hV
theorem A8R{es:List MapEntry}{i:Nat}{f:MapEntry→MapEntry}{e:MapEntry}(hf:∀e,(f e).born=e.born)(h:e∈es):∃e'∈es.modify i f,e'.born=e.born:=by
 obtain⟨j,b⟩:=TR.1 h
 by_cases a:i=j
 ·exact⟨f e,TR.2 ⟨j,by rw[List.getElem?_modify,b];simp[a]⟩,hf e⟩
 ·exact⟨e,TR.2 ⟨j,by rw[List.getElem?_modify,b];simp[a]⟩,rfl⟩
theorem Gv [Flat α][DecidableEq α](ht:∀w,(underlying t).run P w= .ok (.map kt et) w)(hK:KeyT P kt α)(hz:∀w,(zeroValue et).run P w= .ok z w)
 (hx:ev σ x=some (.map (some b))) (hy:ev σ y=some (.agg (Flat.enc k).toArray)) (hH:A7 H j=some (mapE b α V)) (hV:V z):
 OpTo P B m H σ (.mapEntry t x y) ty (fun u m' H'=>m'=m∧∃v s,u= .tuple #[v,.int .i64 s]∧V v∧H'=H4 H j (mapS b α V s)):=
 .ofRun trivial (D1 rfl hx hy) fun w D o I _=>by
  obtain⟨es,clock,l,E,q⟩:=C3 D hH
  obtain⟨r,J,K⟩:=Y7 hK k es.toList E
  obtain⟨A,C,rfl,n,_⟩:=N0 hH
  have d:b<w.heap.size:=(SA.1 l).1
  cases r with
  |none=>
   refine⟨.tuple #[z,.int .i64 clock],w.putObj b (.map (es.push {key:=.agg (Flat.enc k).toArray,val:=z,born:=clock}) (clock+1)),.inl ?_,m,_,⟨rfl,z,clock,rfl,hV,rfl⟩,?_⟩
   ·simp[execOp,I,A6 hx,A6 hy,Instr.mapEntry,ht,I4 l,hK.chk,J,Y5 _ l,hz,goInt]
   rw[n]
   refine D.swap rfl rfl ⟨_,_,World.putObj_heap_same d,fun e a=>?_,fun e a=>?_,⟨_,by simp;exact .inr rfl,rfl⟩⟩
   ·rcases(by simpa using a:e∈es∨e=_)with c|rfl
    ·exact E e (by simpa using c)
    ·exact⟨k,rfl⟩
   ·rcases(by simpa using a:e∈es∨e=_)with c|rfl
    ·exact q e (by simpa using c)
    ·exact hV
  |some p=>
   obtain⟨i,F⟩:=p
   obtain⟨_,G,c,L,M⟩:=K i F rfl
   rw[Ts]at c
   have g:=Ta c
   rw[Uw]at c
   refine⟨.tuple #[F,.int .i64 G.born],w.putObj b (.map (es.modify i fun e=>{e with key:=.agg (Flat.enc k).toArray}) clock),.inl ?_,m,_,⟨rfl,F,G.born,rfl,L▸q G g,rfl⟩,?_⟩
   ·simp[execOp,I,A6 hx,A6 hy,Instr.mapEntry,ht,I4 l,hK.chk,J,c,M,Instr.keyThatStays,hK.bits,Y5 _ l,goInt]
   rw[n]
   refine D.swap rfl rfl ⟨_,_,World.putObj_heap_same d,fun e a=>?_,fun e a=>?_,?_⟩
   ·rw[Te]at a
    rcases X6 a with h6|⟨e0,h6,rfl⟩
    ·exact E e h6
    ·exact⟨k,rfl⟩
   ·rw[Te]at a
    rcases X6 a with h6|⟨e0,h6,rfl⟩
    ·exact q e h6
    ·exact q e0 h6
   ·rw[Te]
    obtain⟨N,Q,R⟩:=A8R (i:=i) (f:=fun e:MapEntry=>{e with key:=.agg (Flat.enc k).toArray}) (fun _=>rfl) g
    exact⟨N,Q,by rw[R]⟩
theorem EP{u:Operand}[Flat α]{s:Int}
 (hx:ev σ x=some (.map (some b))) (hy:ev σ y=some (.int .i64 s)) (hu:ev σ u=some v) (hH:A7 H j=some (mapS b α V s)) (hV:V v):
 OpTo P B m H σ (.entryStore t x y u) ty (fun _ m' H'=>m'=m∧H'=H4 H j (mapE b α V)):=
 .ofRun trivial (JM rfl hx hy hu) fun w k o n _=>by
  obtain⟨es,clock,d,l,p,q,f,r⟩:=C3 k hH
  obtain⟨A,C,rfl,g,_⟩:=N0 hH
  have c:b<w.heap.size:=(SA.1 d).1
  obtain⟨i,hi⟩:∃i,es.findIdx? (fun e=>(e.born:Int) == s)=some i:=by
   cases hq:es.findIdx? (fun e=>(e.born:Int) == s)with
   |some i=>exact⟨i,rfl⟩
   |none=>
    rw[Array.findIdx?_eq_none_iff]at hq
    have:=hq q (by simpa using f)
    simp[r]at this
  refine⟨undef,w.putObj b (.map (es.modify i fun e=>{e with val:=v}) clock),.inr ⟨?_,rfl⟩,m,_,⟨rfl,rfl⟩,?_⟩
  ·simp[execOp,n,A6 hx,A6 hy,A6 hu,Instr.entryStore,I4 d,asInt,asIntOf,hi,Y5 _ d]
  rw[g]
  refine k.swap rfl rfl ⟨_,_,World.putObj_heap_same c,fun e a=>?_,fun e a=>?_⟩
  ·rw[Te]at a
   rcases X6 a with h6|⟨e0,h6,rfl⟩
   ·exact l e h6
   ·exact l e0 h6
  ·rw[Te]at a
   rcases X6 a with h6|⟨e0,h6,rfl⟩
   ·exact p e h6
   ·exact hV
end
inductive WkL:List Ent→List Ent→Prop
 |nil:WkL [] []
 |cons {e e':Ent} {H H':List Ent} (hi:e'.ids=e.ids) (hh:∀w,e.holds w→e'.holds w) (h:WkL H' H):WkL (e'::H') (e::H)
theorem WkL.refl:∀H:List Ent,WkL H H
 | []=>.nil
 |_::H=>.cons rfl (fun _ h=>h) (WkL.refl H)
theorem U1{e:Ent}(h:WkL H' H):WkL (e::H') (e::H):=.cons rfl (fun _ h=>h) h
theorem WkL.ids(h:WkL H' H):B8 H'=B8 H:=by
 induction h with
 |nil=>rfl
 |cons hi _ _ ih=>simp only[B8,hi,ih]
theorem WkL.own(h:WkL H' H)(ho:∀e∈H,e.holds w):∀e∈H',e.holds w:=by
 induction h with
 |nil=>exact ho
 |cons hi hh _ ih=>
  intro e a
  rcases Sn.1 a with rfl|a
  ·exact hh _ (ho _ (Sf ..))
  ·exact ih (fun e a=>ho e (Sg _ a)) e a
theorem WkL.append(h:WkL H' H)(R:List Ent):WkL (H'++R) (H++R):=by
 induction h with
 |nil=>exact WkL.refl R
 |cons hi hh _ ih=>exact .cons hi hh ih
theorem St.wk{B:Base}(hw:St B m H w)(h:WkL H' H):St B m H' w:=
 {hw with own:=h.own hw.own,ids:=by rw[h.ids];exact hw.ids,avoid:=by rw[h.ids];exact hw.avoid,nodup:=by rw[h.ids];exact hw.nodup}
section
variable{M:Option Nat}{P:Program}{N:Nat}{ops:Array Oper}{Q:Exit→Act→World→Prop}{B:Base}{m:Mem}{H:List Ent}{σ:B6}{rest:List Oper}
 {d:Nat} {op:Op} {ty:TypeId} {pos:String} {after:Array Edge} {K:Act→World→Prop} {i:Nat} {must:Bool} {π:Plan} {piv non:List Nat} {KK:Mem→List Ent→B6→Prop} {g:Option (Nat×Bool)}
theorem WK.wk{H':List Ent}(h:WkL H' H)(k:WK N B m H' σ K):WK N B m H σ K:=fun Ds w b a c=>k Ds w (b.wk (h.append _)) a c
theorem mapE.up [Flat α]{V':Value→Prop}(hV:∀v,V v→V' v)(h:WkL H' H):WkL (mapE b α V'::H') (mapE b α V::H):=
 .cons rfl (fun _ ⟨es,c,a,d,f⟩=>⟨es,c,a,d,fun e g=>hV _ (f e g)⟩) h
theorem FJ [Flat α](k:Nat)(hX:B.X=[])(hH:A7 H k=some (mapE b α V))(kk:∀m',m.le m'→MapM m' b α V→WK N B m' (X3 H k) σ K):WK N B m H σ K:=by
 intro Ds w f a p
 obtain⟨es,c,g,l,n⟩:=C3 f (S8 hH)
 obtain⟨d,o⟩:=f.freeze hX (S8 hH)
 rw[Ly hH]at d
 exact kk _ o ⟨es,c,by simp[mapE,g],l,n⟩ Ds w d a p
theorem B5T(h:OpTo P B m H σ op ty (fun v m' H'=>H'=H∧m'=m∧R v))(hd:d<N)(k:∀v,R v→WL M P N ops Q B m H ((d,v)::σ) rest):
 WL M P N ops Q B m H σ (⟨some d,op,ty,pos,after,none⟩::rest):=
 WL.to h hd fun v m' H' ⟨a,b,c⟩=>by subst a;subst b;exact k v c
theorem B4P(h:OpTo P B m H σ op ty (fun _ m' H'=>H'=H∧m'=m))(k:WL M P N ops Q B m H σ rest):WL M P N ops Q B m H σ (⟨none,op,ty,pos,after,none⟩::rest):=
 A0H h fun _ m' H' ⟨a,b⟩=>by subst a;subst b;exact k
theorem BA(ho:ops[i]?=some ⟨some d,op,ty,pos,after,g⟩)(hp:piv.contains i=true)(hg:N6 ops σ ⟨some d,op,ty,pos,after,g⟩=some true)
 (h:OpTo P B m H σ op ty (fun v m' H'=>H'=H∧m'=m∧R v)) (hd:d<N) (k:∀v,R v→DW P B N ops piv non KK false π m H ((d,v)::σ)):DW P B N ops piv non KK must (.cons i π) m H σ:=
 DW.to ho hp hg h hd (fun _ v m' H' ⟨a,b,_⟩=>by subst a;subst b;exact⟨Mem.le_refl _,Tm _⟩) (fun _ _ _ h=>by rw[h.2.1];exact Mem.le_refl _) fun v m' H' ⟨a,b,c⟩=>by subst a;subst b;exact k v c
theorem Bl(ho:ops[i]?=some ⟨none,op,ty,pos,after,g⟩)(hp:piv.contains i=true)(hg:N6 ops σ ⟨none,op,ty,pos,after,g⟩=some true)
 (h:OpTo P B m H σ op ty (fun _ m' H'=>H'=H∧m'=m)) (k:DW P B N ops piv non KK false π m H σ):DW P B N ops piv non KK must (.cons i π) m H σ:=
 ⟨_,ho,(fun e c=>by cases c),.inr (.inr ⟨hp,hg,_,h,(fun _ v m' H' ⟨a,b⟩=>by subst a;subst b;exact⟨Mem.le_refl _,Tm _⟩),(fun _ _ _ h=>by rw[h.2];exact Mem.le_refl _),fun v m' H' ⟨a,b⟩=>by subst a;subst b;exact k⟩)⟩
theorem B7K{f:FuncId}(hf:Enters P f)(hl:AS σ l=some vs)(hc:∀(B:Base) w,St B m H w→Pure P f vs.toArray (Mem.all w) (fun _ v=>R v)):
 OpTo P B m H σ (.call (Call.mk (.value (.func f)) l.toArray ts)) ty (fun v m' H'=>H'=H∧m'=m∧R v):=
 ⟨trivial,BB rfl hl,fun M B w b o a next Q d n kk=>Q6 M<| by
  rw[CV hf hl w o d]
  refine(hc B w b w (fun _ _ h=>h)).mono fun e w' c=>?_
  have g:=Ret.ext c rfl
  obtain⟨u,m',H',rfl,p,k⟩:=c
  exact kk u m H w' ⟨rfl,rfl,k⟩ (b.ext g)⟩
end
end Go.Kx
