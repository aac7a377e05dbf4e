import Derived.Test.YtooomcigmleneaaGreatKxE
set_option linter.all false
namespace Go.Kx
open Go
section
variable{M:Option Nat}{P:Program}{N:Nat}{ops:Array Oper}{Q:Exit→Act→World→Prop}{B:Base}{m:Mem}{H:List Ent}{σ:B6}{rest:List Oper}
 {d:Nat} {op:Op} {ty:TypeId} {pos:String} {after:Array Edge}
theorem WL.y{V:Value}(h:OpX P B m H σ op ty V)(k:WL M P N ops Q B m H ((d,V)::σ) rest)(hd:d<N:=by decide):
 WL M P N ops Q B m H σ (⟨some d,op,ty,pos,after,none⟩::rest):=WL.x h hd k
theorem B7Q{V:Value}{x:Operand}(h:ev σ x=some V)(k:WL M P N ops Q B m H ((d,V)::σ) rest)(hd:d<N:=by decide):
 WL M P N ops Q B m H σ (⟨some d,.move x,ty,pos,after,none⟩::rest):=WL.x (X.move h) hd k
theorem B7N{V:Value}{x:Operand}(h:ev σ x=some V)(k:WL M P N ops Q B m H ((d,V)::σ) rest)(hd:d<N:=by decide):
 WL M P N ops Q B m H σ (⟨some d,.assign x,ty,pos,after,none⟩::rest):=WL.x (X.assign h) hd k
theorem WL.z{K:Act→World→Prop}(h:WK N B m H σ K):WL M P N ops (Exit.then K Q) B m H σ []:=WL.nil (E2 h)
theorem WC.r{id:Nat}{l:List Oper}{y:Code}(h:WL M P N l.toArray (Exit.then (y.wpIn (Df M) 0 P Q) Q) B m H σ l):WC M P N Q B m H σ (.seq (.region id l.toArray false) y):=WC.seq (WC.region h)
theorem WK.c{c:Code}(h:WC M P N Q B m H σ c):WK N B m H σ (c.wpIn (Df M) 0 P Q):=h
end
section
variable{P:Program}{B:Base}{N:Nat}{ops:Array Oper}{piv non:List Nat}{KK:Mem→List Ent→B6→Prop}{π:Plan}{m:Mem}{H:List Ent}{σ:B6}{i d:Nat}{op:Op}{ty:TypeId}{pos:String}{after:Array Edge}{g:Option (Nat×Bool)}
theorem DW.y{V:Value}(ho:ops[i]?=some ⟨some d,op,ty,pos,after,g⟩)(hg:N6 ops σ ⟨some d,op,ty,pos,after,g⟩=some true)(h:OpX P B m H σ op ty V)
 (k:DW P B N ops piv non KK false π m H ((d,V)::σ)) (hd:d<N:=by decide) (hnp:piv.contains i=false:=by rfl) (hfr:non.contains (i+100000)=true→∀m' H',m.le m'→OpX P B m' H' σ op ty V:=by exact fun h=>absurd h (by decide)):DW P B N ops piv non KK false (.cons i π) m H σ:=
 DW.x ho hg h hd k hnp hfr
end
end Go.Kx
namespace Go.Kx
theorem C6:∀v∈([]:List Value),v.oneCell'=true:=by simp
theorem A4{v:Value}{l:List Value}(h:v.oneCell'=true)(hl:∀u∈l,u.oneCell'=true):∀u∈v::l,u.oneCell'=true:=by
 intro u a
 cases a with
 |head=>exact h
 |tail _ a=>exact hl u a
section
variable{M:Option Nat}{P:Program}{N:Nat}{ops:Array Oper}{Q:Exit→Act→World→Prop}{B:Base}{m:Mem}{H:List Ent}{σ:B6}{rest:List Oper}
 {d:Nat} {op:Op} {ty:TypeId} {pos:String} {after:Array Edge} {K:Act→World→Prop}
theorem DW.nil{piv non:List Nat}(h:WK N B m H σ (Q .normal)):DW P B N ops piv non (fun m H σ=>WK N B m H σ (Q .normal)) false .done m H σ:=h
def MZ(σ:B6):List (Nat×Operand)→Option (List (Nat×Value))
 | []=>some []
 |(i,x)::l=>match ev σ x,MZ σ l with
  |some v,some vs=>some ((i,v)::vs)
  |_,_=>none
theorem DS:∀{l:List (Nat×Operand)} {vs:List (Nat×Value)},MZ σ l=some vs→(l.map fun p=>(p.1,T4 σ p.2))=vs∧∀x∈l.map (·.2),∃v,ev σ x=some v
 | [],vs,h=>by simp only[MZ]at h;cases h;exact⟨rfl,by simp⟩
 |(i,x)::l,vs,h=>by
  simp only[MZ]at h
  cases h1:ev σ x with
  |none=>simp[h1]at h
  |some v=>
   cases h2:MZ σ l with
   |none=>simp[h1,h2]at h
   |some us=>
    simp only[h1,h2]at h
    cases h
    obtain⟨h3,h4⟩:=DS h2
    refine⟨by simp[A6 h1,h3],?_⟩
    intro y a
    cases a with
    |head=>exact⟨v,h1⟩
    |tail _ a=>exact h4 y a
theorem X.build{t:TypeId}{z:Value}{fs:Array Field}{places:Array (Nat×Nat)}{parts:List (Nat×Operand)}{vs:List (Nat×Value)}{cs:List Value}
 (hz:∀w,(zeroValue t).run P w= .ok z w) (hu:∀w,(underlying t).run P w= .ok (.struct fs) w)
 (hp:∀w,(fs.mapM fun f=>do pure (f.offset,←sizeOf f.type):Sem _).run P w= .ok places w) (hv:MZ σ parts=some vs)
 (hf:Instr.fill (fun i=>places[i]?) z.cells vs=some cs.toArray):OpX P B m H σ (.build t parts.toArray) ty (.agg cs.toArray):=
 .ofRun trivial (by intro x l;exact(DS hv).2 x (by simpa[Op.operands]using l)) fun w _ o a _=>by
  have b:=(DS hv).1
  have c:(parts.toArray.map fun(x:Nat×Operand)=>(x.1,T4 σ x.2)).toList=vs:=by simpa using b
  have d:=hp w
  simp only[execOp,a,Instr.build,Sem.run_bind,hz,Result.andThen_ok,hu]
  rw[show(fs.mapM (fun f=>do pure (f.offset,←sizeOf f.type):Field→Sem (Nat×Nat))).run P w= .ok places w from d]
  simp only[Result.andThen_ok]
  have g:(Array.map (fun x:Nat×Operand=>match x with|(i,x)=>(i,T4 σ x)) parts.toArray).toList=vs:=c
  rw[g]
  have k:Instr.fill (fun x=>places[x]?) z.cells vs=some cs.toArray:=hf
  rw[k]
  rfl
theorem J5{x:Operand}{t:TypeId}{k b off n:Nat}{T':TypeId}{cs vs:List Value}(ha:∀w,(isAgg t).run P w= .ok true w)
 (hz:∀w,(sizeOf t).run P w= .ok n w) (hx:ev σ x=some (.pointer (some ⟨b,off,none⟩))) (hH:A7 H k=some (blk b T' cs)) (hn:vs.length=n) (hv:(cs.drop off).take n=vs):
 OpX P B m H σ (.load t x) ty (.agg vs.toArray):=
 .ofRun trivial (L6 rfl hx) fun w c o d _=>by
  subst hn
  have f:=run_loadCells_list (P:=P) w ⟨b,off,none⟩ vs (fun j v a=>by
   rw[C9 rfl,Eb c hH]
   rw[←hv,SI]at a
   split at a
   ·simpa using a
   ·cases a)
  simp[execOp,d,A6 hx,Instr.loadAt,Instr.sureAddr,loadVar,ha,hz,f]
theorem NY{α:Type}[Flat α](z:Value)(a:α)(hz:z.cells.toList=Flat.enc a)(n:Nat):(madeCells z.cells (n*Flat.n α)).toList=flat (List.replicate n a):=by
 have c:z.cells.size=Flat.n α:=by rw[←Tc,hz,Flat.len]
 have b:=Flat.pos (α:=α)
 apply SG
 intro i
 by_cases hi:i<n*Flat.n α
 ·have g:i/Flat.n α<n:=by rw[Nat.div_lt_iff_lt_mul b];exact hi
  have d:i%Flat.n α<Flat.n α:=Nat.mod_lt _ b
  have k:(Flat.enc a)[i%Flat.n α]?=some (z.cells[i%Flat.n α]!):=by
   rw[←hz]
   rw[getElem!_pos z.cells _ (by rw[c];exact d)]
   simp[c,d]
  have f:=FC (List.replicate n a) (i/Flat.n α) a (by simp[g]) (i%Flat.n α) _ k
  rw[Nat.mul_comm,Nat.div_add_mod]at f
  rw[f]
  simp[madeCells,hi,c]
 ·have l:(flat (List.replicate n a)).length≤i:=by rw[F8];simp;omega
  rw[Sm l,Sm (by simp[madeCells];omega)]
theorem T.make{α:Type}[Flat α]{x y:Operand}{t e:TypeId}{bytes:Nat}{z:Value}{n:Int}{a:α}(hS:SlT P t e (Flat.n α) bytes z)(hz:z.cells.toList=Flat.enc a)
 (hx:ev σ x=some (.int .i64 n)) (hy:ev σ y=some (.int .i64 n)) (h0:0≤n) (hb:(bytes:Int)*n≤140737488355328) (hby:0<bytes):
 OpTo P B m H σ (.makeSlice t x y) ty (fun v m' H'=>m'=m∧H'=A5 v e (List.replicate n.toNat a)::H):=
 .ofRun trivial (D1 rfl hx hy) fun w f o g _=>by
  obtain⟨i,hi,b,d,c⟩:=hS.hi
  have l:n≤(bytes:Int)*n:=by
   have:1*n≤(bytes:Int)*n:=TN (by omega) h0
   omega
  have k:=run_make (P:=P) w t e i z hS.ht hi b .i64 .i64 n n h0 (Si _) (by rw[c];omega) (by omega)
  refine⟨_,_,.inl (by simp only[execOp,g,A6 hx,A6 hy,Sem.run_bind,k];rfl),m,_,⟨rfl,rfl⟩,?_⟩
  refine f.push (Ext.alloc w _) _ ?_ (by simp[A5,row,Value.ownBlock]) (by simp[A5,row,Value.ownBlock])
  refine⟨by rw[F8],.inr ⟨w.heap.size,n.toNat,_,by simp,EF _,heap_alloc_new w _,by simp,by simp only[maxLen];omega,by rw[size_madeCells,d],?_⟩⟩
  rw[d,NY z a hz,Tk (by rw[F8];simp)]
theorem IZ{w:World}(hw:St B m H w){k off:Nat}{v u:Value}{e:TypeId}{sz n:Nat}{xs:List Value}(hH:A7 H k=some (row v e sz n xs))(ho:off<xs.length)(h1:u.oneCell'=true):
 ∃w',(storeCells (rp v off) [u]).run P w= .ok () w'∧St B m (H4 H k (row v e sz n (xs.set off u))) w':=by
 have d:(row v e sz n xs).holds w:=C3 hw hH
 have p:0<n:=by
  rcases TM n with h0|h0
  ·rw[d.1,h0]at ho;simp at ho
  ·exact h0
 obtain⟨g,cap,cur,rfl,l,q,r,t,o⟩:=EB d p
 have b:off<cur.size:=by
  have s:xs.length≤cur.size:=by rw[←o];simp;omega
  omega
 have a:=run_storeCells_at P g off e [u] 0 cur w l (by simp;omega) (by simpa using h1)
 simp only[TB]at a
 refine⟨_,a,hw.change hH rfl rfl rfl (by simp[World.setRow]) ?_ ?_ ?_ (by simp[row,Value.ownBlock])⟩
 ·intro c _ f
  exact Kx.setRow_other w g _ c (by simpa[row,Value.ownBlock]using f)
 ·refine⟨by rw[I'];exact d.1,.inr ⟨g,cap,_,rfl,EF _,Kx.setRow_self' w g _ cur e _ l,q,r,?_,?_⟩⟩
  ·simp;omega
  ·simp only[List.length_singleton]
   have:cur.toList.take off++[u]++cur.toList.drop (off+1)=cur.toList.set off u:=by
    rw[Ua,D' (by simpa using b)];simp
   rw[this,List.take_set,o]
 ·intro c f;exact .inl f
theorem QU(L:List Int)(i:Nat)(y:Int):(flat L).set i (.int .i64 y)=flat (L.set i y):=by rw[HB,HB,List.map_set]
theorem A0l{x y:Operand}{t e:TypeId}{k i:Nat}{v:Value}{L:List Int}{u:Int}(hz:∀w,(sizeOf t).run P w= .ok 1 w)
 (hx:ev σ x=some (.pointer (some (rp v i)))) (hy:ev σ y=some (.int .i64 u)) (hH:A7 H k=some (A5 v e L)) (hi:i<L.length):
 OpTo P B m H σ (.store t x y) ty (fun _ m' H'=>m'=m∧H'=H4 H k (A5 v e (L.set i u))):=
 .ofRun trivial (D1 rfl hx hy) fun w c o a _=>by
  obtain⟨w',d,b⟩:=IZ (P:=P) (u:=.int .i64 u) (off:=i) c hH (by rw[F8];simpa[Flat.n]using hi) rfl
  refine⟨undef,w',.inr ⟨by simp[execOp,a,A6 hx,A6 hy,Instr.storeAt,Instr.sureAddr,storeVar,hz,Value.cells,d],rfl⟩,m,_,⟨rfl,rfl⟩,?_⟩
  rw[QU]at b
  simpa[A5]using b
theorem Bu(e:TypeId)(sz:Nat)(h:WK N B m (row (.slice none 0 0) e sz 0 []::H) σ K):WK N B m H σ K:=by
 intro Ds w b a c
 refine h Ds w ?_ a c
 exact b.push (Ext.refl w) _ (World.ownsRow_nil w 0 e sz) (by simp[row,Value.ownBlock]) (by simp[row,Value.ownBlock])
theorem I5(α:Type)[Flat α](e:TypeId)(h:WK N B m (A5 (.slice none 0 0) e ([]:List α)::H) σ K):WK N B m H σ K:=Bu e (Flat.n α) h
end
theorem M1{P:Program}{t:TypeId}{i:TypeInfo}(h:∀w,(typeInfo t).run P w= .ok i w):P.info? t=some i:=by
 have a:=h default
 cases hi:P.info? t with
 |none=>simp[typeInfo,hi]at a
 |some j=>simp[typeInfo,hi]at a;rw[a]
theorem D5{p:Prop}[Decidable p](h:p):Value.bool true= .bool (decide p):=by rw[SF h]
theorem B2{p:Prop}[Decidable p](h:¬p):Value.bool false= .bool (decide p):=by rw[Tg h]
theorem B0{a b:Int}(h:a=b):Value.int .i64 a= .int .i64 b:=by rw[h]
theorem D8{p q:Prop}[Decidable p][Decidable q](h:p↔q):Value.bool (decide p)= .bool (decide q):=by simp[h]
theorem G4{a b a' b':Value}(h1:a=a')(h2:b=b'):Value.tuple #[a,b]= .tuple #[a',b']:=by rw[h1,h2]
theorem Dy{α:Type}[Inhabited α]{a b:List α}(hl:a.length=b.length)(h:∀j,j<a.length→gt a j=gt b j):a=b:=by
 apply SG
 intro j
 by_cases c:j<a.length
 ·rw[S9 c,S9 (by omega),h j c]
 ·rw[Sm (by omega),Sm (by omega)]
def IQ:Nat→List Value→List (Nat×Value)
 |_,[]=>[]
 |i,v::l=>(i,v)::IQ (i+1) l
theorem A5N(off:Nat):∀(vs:List Value) (j:Nat) (acc:Array Value),off+j+vs.length≤acc.size→
 ((vs.zipIdx j).foldl (fun cs (p:Value×Nat)=>cs.setIfInBounds (off+p.2) p.1) acc).toList=acc.toList.take (off+j)++vs++acc.toList.drop (off+j+vs.length)
 | [],j,acc,_=>by simp
 |u::us,j,acc,h=>by
  simp only[N']at h
  simp only[List.zipIdx_cons,List.foldl_cons]
  rw[A5N off us (j+1) _ (by simp;omega)]
  have hj:off+j<acc.toList.length:=by simp;omega
  simp only[Array.toList_setIfInBounds,N']
  rw[←SX,List.take_set,UC hj,List.set_append]
  have a:(acc.toList.take (off+j)).length=off+j:=by simp;omega
  rw[A' (by omega),a,SY]
  have b:(acc.toList.set (off+j) u).drop (off+j+1+us.length)=acc.toList.drop (off+j+(us.length+1)):=by
   rw[List.drop_set,D' (by omega)];congr 1;omega
  rw[b]
  simp
theorem KU{sz:Nat}:∀(vals:List Value) (j:Nat) (acc:Array Value),(∀v∈vals,v.cells.size=sz)→(j+vals.length)*sz≤acc.size→
 ∃a,Instr.fill (fun i=>some (i*sz,sz)) acc (IQ j vals)=some a∧a.toList=acc.toList.take (j*sz)++vals.flatMap (fun v=>v.cells.toList)++acc.toList.drop ((j+vals.length)*sz)
 | [],j,acc,_,_=>⟨acc,rfl,by simp⟩
 |v::vals,j,acc,hv,hl=>by
  have hvs:v.cells.size=sz:=hv v (Sf ..)
  have n:j*sz+sz≤acc.size:=by
   have:(j+1)*sz≤(j+(vals.length+1))*sz:=Sw _ (by omega)
   rw[Sb]at this;simp only[N']at hl;omega
  have b:=A5N (j*sz) v.cells.toList 0 acc (by simp[hvs];omega)
  simp only[TB,Tc,hvs]at b
  simp only[Instr.fill,IQ]
  rw[A' (by simp[hvs];omega)]
  rw[←Tr,Array.toList_zipIdx]
  generalize hacc:(v.cells.toList.zipIdx.foldl (fun cs (p:Value×Nat)=>cs.setIfInBounds (j*sz+p.2) p.1) acc)=acc' at b
  have d:acc'.size=acc.size:=by
   have:=Sd List.length b
   simp[hvs]at this
   omega
  obtain⟨a,l,m⟩:=KU vals (j+1) acc' (fun u k=>hv u (Sg _ k)) (by rw[d];simp only[N']at hl;rw[show j+1+vals.length=j+(vals.length+1) by omega];exact hl)
  refine⟨a,?_,?_⟩
  ·rw[←l]
  ·have f:(acc.toList.take (j*sz)).length=j*sz:=by simp;omega
   have c:(acc.toList.take (j*sz)++v.cells.toList).length=(j+1)*sz:=by rw[F',f,Tc,hvs,Sb];omega
   rw[m,b,Ug (by rw[c];omega),Tk (by rw[c];omega)]
   have g:(j+1)*sz≤(j+1+vals.length)*sz:=Sw _ (by omega)
   rw[List.drop_append,SV (by rw[c];exact g),c,Uh]
   simp only[Ti,Se,Uc,N']
   congr 4
   have:(j+1+vals.length)*sz=(j+1)*sz+vals.length*sz:=by rw[Sb]
   have o:(j+1)*sz=j*sz+sz:=by rw[Sb];omega
   rw[show j+(vals.length+1)=j+1+vals.length by omega]
   omega
def RdVs{α:Type}[Enc α](m:Mem):List Value→List α→Prop
 | [],[]=>True
 |v::vs,x::L=>(∃cs,v.cells=cs.toArray∧Enc.rd m cs x)∧RdVs m vs L
 |_,_=>False
theorem RdVs.nil{α:Type}[Enc α]{m:Mem}:RdVs (α:=α) m [] []:=trivial
theorem RdVs.cons{α:Type}[Enc α]{m:Mem}{v:Value}{vs:List Value}{x:α}{L:List α}{cs:List Value}(h1:v.cells=cs.toArray)(h2:Enc.rd m cs x)(h:RdVs m vs L):RdVs m (v::vs) (x::L):=⟨⟨cs,h1,h2⟩,h⟩
theorem RdVs.rdl{α:Type}[Enc α]{m:Mem}:∀{vs:List Value} {L:List α},RdVs m vs L→RdL m (vs.flatMap fun v=>v.cells.toList) L∧vs.length=L.length∧∀v∈vs,v.cells.size=Enc.sz α
 | [],[],_=>⟨RdL.nil,rfl,by simp⟩
 | [],_::_,h=>h.elim
 |_::_,[],h=>h.elim
 |v::vs,x::L,⟨⟨cs,h1,h2⟩,h⟩=>by
  obtain⟨⟨g1,g1'⟩,g2,g3⟩:=RdVs.rdl h
  have c:v.cells.toList=cs:=by rw[h1]
  have a:cs.length=Enc.sz α:=Enc.len h2
  refine⟨⟨?_,?_⟩,by simp[g2],?_⟩
  ·simp only[Ti,F',c,a,g1,N',Sb];omega
  ·intro i y d
   cases i with
   |zero=>
    simp at d;subst d
    refine⟨cs,h2,fun j u b=>?_⟩
    simp only[Ti,c,SU,SC]
    rw[SK (Sq.1 b).1];exact b
   |succ i=>
    obtain⟨us,f,g⟩:=g1' i y (by simpa using d)
    refine⟨us,f,fun j u b=>?_⟩
    have:=g j u b
    simp only[Ti,c]
    rw[SL (by rw[a,Sb];omega),a,←this]
    congr 1;rw[Sb];omega
  ·intro u b
   cases b with
   |head=>rw[h1];simpa using a
   |tail _ b=>exact g3 u b
section
variable{M:Option Nat}{P:Program}{N:Nat}{ops:Array Oper}{Q:Exit→Act→World→Prop}{B:Base}{m:Mem}{H:List Ent}{σ:B6}{rest:List Oper}
 {d:Nat} {op:Op} {ty:TypeId} {pos:String} {after:Array Edge} {K:Act→World→Prop}
theorem M5{α:Type}[Enc α]{t e:TypeId}{bytes n:Nat}{z:Value}{parts:List (Nat×Operand)}{vals:List Value}{L:List α}(hS:SlT P t e (Enc.sz α) bytes z)
 (hv:MZ σ parts=some (IQ 0 vals)) (hr:RdVs m vals L) (hn:vals.length=n) (hm:Nat.ble (n*Enc.sz α) 16777216=true):
 OpTo P B m H σ (.buildSlice t n parts.toArray) ty (fun v m' H'=>H'=H∧m.le m'∧Sl m' v L):=
 .ofRun trivial (by intro x J;exact(DS hv).2 x (by simpa[Op.operands]using J)) fun w q o r _=>by
  obtain⟨A,C,D⟩:=hr.rdl
  have d:¬16777216<n*Enc.sz α:=by have:=J' hm;omega
  obtain⟨a,l,E⟩:=KU (sz:=Enc.sz α) vals 0 ((Array.range (n*Enc.sz α)).map (z.cells[· %z.cells.size]!)) D (by simp[hn])
  have c:a.toList=vals.flatMap fun v=>v.cells.toList:=by
   rw[E];simp[hn]
  have y:((parts.toArray.map fun(x:Nat×Operand)=>(x.1,T4 σ x.2)).toList)=IQ 0 vals:=by simpa using(DS hv).1
  obtain⟨F,p⟩:=q.freshMem (.cells a e)
  refine⟨.slice (some ⟨w.heap.size,0,none⟩) n n,w.alloc (.cells a e),.inl ?_,_,H,⟨rfl,p,?_⟩,F⟩
  ·have f:(Array.map (fun x:Nat×Operand=>match x with|(i,x)=>(i,T4 σ x)) parts.toArray).toList=IQ 0 vals:=y
   simp only[execOp,r,Instr.buildSlice,Sem.run_bind,hS.u,Result.andThen_ok,hS.s]
   rw[A' d]
   rw[f]
   by_cases k:n*Enc.sz α=0
   ·rw[D' k]
    have:vals=[]:=by
     have:=Enc.pos (α:=α)
     rcases Nat.mul_eq_zero.1 k with h|h
     ·rw[h]at hn;exact Tj hn
     ·omega
    subst this
    simp[IQ,Instr.fill]at l⊢
    simp at hn;subst hn
    simp[newRow]
    have:a=#[]:=by apply Array.ext';rw[c];rfl
    rw[this];congr 2
    exact Array.ext' (by simp[Array.range])
   ·rw[A' k]
    simp only[Sem.run_bind,hS.zr,Result.andThen_ok,Sem.run_pure]
    rw[l]
    simp[newRow]
  ·rw[←hn,C]
   refine .some _ _ _ (fun _=>rfl) (E' _) ?_ ?_ ?_
   ·have:=J' hm
    have b:=Enc.pos (α:=α)
    have:n≤n*Enc.sz α:=Ud _ b
    unfold C7;omega
   ·have:=J' hm
    have b:=Enc.pos (α:=α)
    have:n≤n*Enc.sz α:=Ud _ b
    simp only[maxLen];omega
   ·intro i x g
    obtain⟨us,G,I⟩:=A.2 i x g
    refine⟨us,Enc.mono p G,rfl,a,e,(0,0),by simp[Mem.put],?_⟩
    intro j u K
    have:=I j u K
    rw[←c]at this
    simpa using this
theorem Et{a:Array Value}{w:World}{t T':TypeId}{k b:Nat}{cs:List Value}(hw:St B m H w)(ha:∀t v,lk σ t=some v→a[t]?=some v)(hv:lk σ t=some (.pointer (some ⟨b,0,none⟩)))(hH:A7 H k=some (blk b T' cs))
 (hg:∀w,(isAgg T').run P w= .ok true w) (hz:∀w,(sizeOf T').run P w= .ok cs.length w):
 a.getD t undef= .pointer (some ⟨b,0,none⟩)∧(loadVar T' ⟨b,0,none⟩).run P w= .ok (.agg cs.toArray) w:=by
 have d:=ha t _ hv
 have f:=run_loadCells_list (P:=P) w ⟨b,0,none⟩ cs (fun j v c=>by
  rw[C9 rfl,Eb hw hH];simpa using c)
 exact⟨by rw[SH,d];rfl,by simp[loadVar,hg,hz,f]⟩
theorem Ad{fn:Func}{R:Ending→World→Prop}{t T':Nat}(k:Nat){b:Nat}{cs:List Value}(hres:fn.results=#[.cell t T'])(hv:lk σ t=some (.pointer (some ⟨b,0,none⟩)))(hH:A7 H k=some (blk b T' cs))
 (hg:∀w,(isAgg T').run P w= .ok true w) (hz:∀w,(sizeOf T').run P w= .ok cs.length w) (hR:∀w,St B m H w→R (.returned (.agg cs.toArray)) w):WK N B m H σ (N2 P fn R .ret):=
 DC (.inl rfl) (fun w d a f=>by
  obtain⟨c,g⟩:=Et d f hv hH hg hz
  rw[SH]at c
  simp[results,hres,c,asAddr,g]) hR
theorem E6{fn:Func}{R:Ending→World→Prop}{t T' u:Nat}(k:Nat){b:Nat}{cs:List Value}{v:Value}(hres:fn.results=#[.cell t T',.tmp u])(hv:lk σ t=some (.pointer (some ⟨b,0,none⟩)))(hu:lk σ u=some v)(hH:A7 H k=some (blk b T' cs))
 (hg:∀w,(isAgg T').run P w= .ok true w) (hz:∀w,(sizeOf T').run P w= .ok cs.length w) (hR:∀w,St B m H w→R (.returned (.tuple #[.agg cs.toArray,v])) w):WK N B m H σ (N2 P fn R .ret):=
 DC (.inl rfl) (fun w f a c=>by
  obtain⟨d,l⟩:=Et f c hv hH hg hz
  rw[SH]at d
  have g:=c u v hu
  simp[results,hres,d,asAddr,l,g]) hR
theorem DR{fn:Func}{R:Ending→World→Prop}{t T' t' T'' u:Nat}(k k':Nat){b b':Nat}{cs cs':List Value}{v:Value}(hres:fn.results=#[.cell t T',.cell t' T'',.tmp u])(hv:lk σ t=some (.pointer (some ⟨b,0,none⟩)))(hv':lk σ t'=some (.pointer (some ⟨b',0,none⟩)))(hu:lk σ u=some v)
 (hH:A7 H k=some (blk b T' cs)) (hH':A7 H k'=some (blk b' T'' cs'))
 (hg:∀w,(isAgg T').run P w= .ok true w) (hz:∀w,(sizeOf T').run P w= .ok cs.length w) (hg':∀w,(isAgg T'').run P w= .ok true w) (hz':∀w,(sizeOf T'').run P w= .ok cs'.length w)
 (hR:∀w,St B m H w→R (.returned (.tuple #[.agg cs.toArray,.agg cs'.toArray,v])) w):WK N B m H σ (N2 P fn R .ret):=
 DC (.inl rfl) (fun w d a c=>by
  obtain⟨f,n⟩:=Et d c hv hH hg hz
  obtain⟨g,o⟩:=Et d c hv' hH' hg' hz'
  rw[SH]at f g
  have l:=c u v hu
  simp[results,hres,f,asAddr,n,l,g,o]) hR
theorem A9I{a:Array Value}{w:World}{t T':TypeId}{k b:Nat}{v:Value}(hw:St B m H w)(ha:∀t v,lk σ t=some v→a[t]?=some v)(hv:lk σ t=some (.pointer (some ⟨b,0,none⟩)))(hH:A7 H k=some (blk b T' [v]))
 (hg:∀w,(isAgg T').run P w= .ok false w):
 a.getD t undef= .pointer (some ⟨b,0,none⟩)∧(loadVar T' ⟨b,0,none⟩).run P w= .ok v w:=by
 have c:=ha t _ hv
 have d:=Eb hw hH 0
 exact⟨by rw[SH,c];rfl,by simp[loadVar,hg,d]⟩
def B5y(B:Base)(m:Mem):Prop:=B.m.le m∧∀b,b<B.w.heap.size→m b=B.m b
theorem N5(h:B5y B m→WK N B m H σ K):WK N B m H σ K:=fun Ds w b a c=>h ⟨b.le,b.new⟩ Ds w b a c
theorem G9{m0:Mem}(hg:B5y B m0)(hle:m0.le m)(h:WK N B m0 H σ K):WK N B m H σ K:=fun Ds w c a f=>h Ds w
 {c with
  sub:=fun b o d=>c.sub b o (hle b o d)
  le:=hg.1
  new:=hg.2
  avoid:=fun b d=>by
   cases hm:m0 b with
   |none=>rfl
   |some o=>have:=c.avoid b d;rw[hle b o hm]at this;cases this} a f
end
end Go.Kx
