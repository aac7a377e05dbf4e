import Derived.Test.YtooomcigmleneaaGreatKxE
set_option linter.all false
namespace Go.Kx
open Go
section
variable{M:Option Nat}{P:Program}{N:Nat}{ops:Array Oper}{Q:Exit→Act→World→Prop}{B:Base}{m:Mem}{H:List Ent}{σ:B5}{rest:List Oper}
 {d:Nat} {op:Op} {ty:TypeId} {pos:String} {after:Array Edge}
theorem WL.y{V:Value}(h:OpX P B m H σ op ty V)(k:WL M P N ops Q B m H ((d,V)::σ) rest)(hd:d<N:=by decide):
 WL M P N ops Q B m H σ (⟨some d,op,ty,pos,after,none⟩::rest):=WL.x h hd k
theorem C9d{V:Value}{x:Operand}(h:ev σ x=some V)(k:WL M P N ops Q B m H ((d,V)::σ) rest)(hd:d<N:=by decide):
 WL M P N ops Q B m H σ (⟨some d,.move x,ty,pos,after,none⟩::rest):=WL.x (X.move h) hd k
theorem C8X{V:Value}{x:Operand}(h:ev σ x=some V)(k:WL M P N ops Q B m H ((d,V)::σ) rest)(hd:d<N:=by decide):
 WL M P N ops Q B m H σ (⟨some d,.assign x,ty,pos,after,none⟩::rest):=WL.x (X.assign h) hd k
theorem WL.z{K:Act→World→Prop}(h:WK N B m H σ K):WL M P N ops (Exit.then K Q) B m H σ []:=WL.nil (L9 h)
theorem WC.r{id:Nat}{l:List Oper}{y:Code}(h:WL M P N l.toArray (Exit.then (y.wpIn (fen M) 0 P Q) Q) B m H σ l):WC M P N Q B m H σ (.seq (.region id l.toArray false) y):=WC.seq (WC.region h)
theorem WK.c{c:Code}(h:WC M P N Q B m H σ c):WK N B m H σ (c.wpIn (fen M) 0 P Q):=h
end
section
variable{P:Program}{B:Base}{N:Nat}{ops:Array Oper}{piv non:List Nat}{KK:Mem→List Ent→B5→Prop}{π:Plan}{m:Mem}{H:List Ent}{σ:B5}{i d:Nat}{op:Op}{ty:TypeId}{pos:String}{after:Array Edge}{g:Option (Nat×Bool)}
theorem DW.y{V:Value}(ho:ops[i]?=some ⟨some d,op,ty,pos,after,g⟩)(hg:M6 ops σ ⟨some d,op,ty,pos,after,g⟩=some true)(h:OpX P B m H σ op ty V)
 (k:DW P B N ops piv non KK false π m H ((d,V)::σ)) (hd:d<N:=by decide) (hnp:piv.contains i=false:=by rfl) (hfr:non.contains (i+100000)=true→∀m' H',m.le m'→OpX P B m' H' σ op ty V:=by exact fun h=>absurd h (by decide)):DW P B N ops piv non KK false (.cons i π) m H σ:=
 DW.x ho hg h hd k hnp hfr
end
end Go.Kx
namespace Go.Kx
theorem C0:∀v∈([]:List Value),v.oneCell'=true:=by simp
theorem A4{v:Value}{l:List Value}(h:v.oneCell'=true)(hl:∀u∈l,u.oneCell'=true):∀u∈v::l,u.oneCell'=true:=by
 intro u hu
 cases hu with
 |head=>exact h
 |tail _ hu=>exact hl u hu
section
variable{M:Option Nat}{P:Program}{N:Nat}{ops:Array Oper}{Q:Exit→Act→World→Prop}{B:Base}{m:Mem}{H:List Ent}{σ:B5}{rest:List Oper}
 {d:Nat} {op:Op} {ty:TypeId} {pos:String} {after:Array Edge} {K:Act→World→Prop}
theorem DW.nil{piv non:List Nat}(h:WK N B m H σ (Q .normal)):DW P B N ops piv non (fun m H σ=>WK N B m H σ (Q .normal)) false .done m H σ:=h
theorem A5L{fn:Func}{R:Ending→World→Prop}{t u s:Nat}{v v' v'':Value}(hres:fn.results=#[.tmp t,.tmp u,.tmp s])(hv:lk σ t=some v)(hv':lk σ u=some v')(hv'':lk σ s=some v'')
 (hR:∀w,St B m H w→R (.returned (.tuple #[v,v',v''])) w):WK N B m H σ (L8 P fn R .ret):=
 A2F (.inl rfl) (fun w _ a ha=>by
  have h1:=ha t v hv
  have h2:=ha u v' hv'
  have h3:=ha s v'' hv''
  simp[results,hres,h1,h2,h3]) hR
def evp(σ:B5):List (Nat×Operand)→Option (List (Nat×Value))
 | []=>some []
 |(i,x)::l=>match ev σ x,evp σ l with
  |some v,some vs=>some ((i,v)::vs)
  |_,_=>none
theorem A2S:∀{l:List (Nat×Operand)} {vs:List (Nat×Value)},evp σ l=some vs→(l.map fun p=>(p.1,S2 σ p.2))=vs∧∀x∈l.map (·.2),∃v,ev σ x=some v
 | [],vs,h=>by simp only[evp]at h;cases h;exact⟨rfl,by simp⟩
 |(i,x)::l,vs,h=>by
  simp only[evp]at h
  cases h1:ev σ x with
  |none=>simp[h1]at h
  |some v=>
   cases h2:evp σ l with
   |none=>simp[h1,h2]at h
   |some us=>
    simp only[h1,h2]at h
    cases h
    obtain⟨h3,h4⟩:=A2S h2
    refine⟨by simp[A6 h1,h3],?_⟩
    intro y hy
    cases hy with
    |head=>exact⟨v,h1⟩
    |tail _ hy=>exact h4 y hy
theorem X.build{t:TypeId}{z:Value}{fs:Array Field}{places:Array (Nat×Nat)}{parts:List (Nat×Operand)}{vs:List (Nat×Value)}{cs:List Value}
 (hz:∀w,(zeroValue t).run P w= .ok z w) (hu:∀w,(underlying t).run P w= .ok (.struct fs) w)
 (hp:∀w,(fs.mapM fun f=>do pure (f.offset,←sizeOf f.type):Sem _).run P w= .ok places w) (hv:evp σ parts=some vs)
 (hf:Instr.fill (fun i=>places[i]?) z.cells vs=some cs.toArray):OpX P B m H σ (.build t parts.toArray) ty (.agg cs.toArray):=
 .ofRun trivial (by intro x hx;exact(A2S hv).2 x (by simpa[Op.operands]using hx)) fun w _ o ho _=>by
  have h1:=(A2S hv).1
  have h2:(parts.toArray.map fun(x:Nat×Operand)=>(x.1,S2 σ x.2)).toList=vs:=by simpa using h1
  have h3:=hp w
  simp only[execOp,ho,Instr.build,Sem.run_bind,hz,Result.andThen_ok,hu]
  rw[show(fs.mapM (fun f=>do pure (f.offset,←sizeOf f.type):Field→Sem (Nat×Nat))).run P w= .ok places w from h3]
  simp only[Result.andThen_ok]
  have h4:(Array.map (fun x:Nat×Operand=>match x with|(i,x)=>(i,S2 σ x)) parts.toArray).toList=vs:=h2
  rw[h4]
  have h5:Instr.fill (fun x=>places[x]?) z.cells vs=some cs.toArray:=hf
  rw[h5]
  rfl
theorem J2{x:Operand}{t:TypeId}{k b off n:Nat}{T':TypeId}{cs vs:List Value}(ha:∀w,(isAgg t).run P w= .ok true w)
 (hz:∀w,(sizeOf t).run P w= .ok n w) (hx:ev σ x=some (.pointer (some ⟨b,off,none⟩))) (hH:B2 H k=some (blk b T' cs)) (hn:vs.length=n) (hv:(cs.drop off).take n=vs):
 OpX P B m H σ (.load t x) ty (.agg vs.toArray):=
 .ofRun trivial (I8 rfl hx) fun w hw o ho _=>by
  subst hn
  have hl:=run_loadCells_list (P:=P) w ⟨b,off,none⟩ vs (fun j v hj=>by
   rw[B9 rfl,A4x hw hH]
   rw[←hv,List.getElem?_take]at hj
   split at hj
   ·simpa using hj
   ·cases hj)
  simp[execOp,ho,A6 hx,Instr.loadAt,Instr.sureAddr,loadVar,ha,hz,hl]
theorem B0V{α:Type}[Flat α](z:Value)(a:α)(hz:z.cells.toList=Flat.enc a)(n:Nat):(madeCells z.cells (n*Flat.n α)).toList=flat (List.replicate n a):=by
 have hsz:z.cells.size=Flat.n α:=by rw[←Array.length_toList,hz,Flat.len]
 have hpos:=Flat.pos (α:=α)
 apply List.ext_getElem?
 intro i
 by_cases hi:i<n*Flat.n α
 ·have h1:i/Flat.n α<n:=by rw[Nat.div_lt_iff_lt_mul hpos];exact hi
  have h2:i%Flat.n α<Flat.n α:=Nat.mod_lt _ hpos
  have h3:(Flat.enc a)[i%Flat.n α]?=some (z.cells[i%Flat.n α]!):=by
   rw[←hz]
   rw[getElem!_pos z.cells _ (by rw[hsz];exact h2)]
   simp[hsz,h2]
  have h4:=A4L (List.replicate n a) (i/Flat.n α) a (by simp[h1]) (i%Flat.n α) _ h3
  rw[Nat.mul_comm,Nat.div_add_mod]at h4
  rw[h4]
  simp[madeCells,hi,hsz]
 ·have h5:(flat (List.replicate n a)).length≤i:=by rw[E7];simp;omega
  rw[List.getElem?_eq_none h5,List.getElem?_eq_none (by simp[madeCells];omega)]
theorem T.make{α:Type}[Flat α]{x y:Operand}{t e:TypeId}{bytes:Nat}{z:Value}{n:Int}{a:α}(hS:SlT P t e (Flat.n α) bytes z)(hz:z.cells.toList=Flat.enc a)
 (hx:ev σ x=some (.int .i64 n)) (hy:ev σ y=some (.int .i64 n)) (h0:0≤n) (hb:(bytes:Int)*n≤140737488355328) (hby:0<bytes):
 OpTo P B m H σ (.makeSlice t x y) ty (fun v m' H'=>m'=m∧H'=A5 v e (List.replicate n.toNat a)::H):=
 .ofRun trivial (D0 rfl hx hy) fun w hw o ho _=>by
  obtain⟨i,hi,hzi,hs,hbi⟩:=hS.hi
  have hn:n≤(bytes:Int)*n:=by
   have:1*n≤(bytes:Int)*n:=Int.mul_le_mul_of_nonneg_right (by omega) h0
   omega
  have hr:=run_make (P:=P) w t e i z hS.ht hi hzi .i64 .i64 n n h0 (Int.le_refl _) (by rw[hbi];omega) (by omega)
  refine⟨_,_,.inl (by simp only[execOp,ho,A6 hx,A6 hy,Sem.run_bind,hr];rfl),m,_,⟨rfl,rfl⟩,?_⟩
  refine hw.push (Ext.alloc w _) _ ?_ (by simp[A5,row,Value.ownBlock]) (by simp[A5,row,Value.ownBlock])
  refine⟨by rw[E7],.inr ⟨w.heap.size,n.toNat,_,by simp,Nat.zero_le _,heap_alloc_new w _,by simp,by simp only[maxLen];omega,by rw[size_madeCells,hs],?_⟩⟩
  rw[hs,B0V z a hz,List.take_of_length_le (by rw[E7];simp)]
theorem B1O{w:World}(hw:St B m H w){k off:Nat}{v u:Value}{e:TypeId}{sz n:Nat}{xs:List Value}(hH:B2 H k=some (row v e sz n xs))(ho:off<xs.length)(h1:u.oneCell'=true):
 ∃w',(storeCells (rp v off) [u]).run P w= .ok () w'∧St B m (H4 H k (row v e sz n (xs.set off u))) w':=by
 have hh:(row v e sz n xs).holds w:=C1 hw hH
 have hn:0<n:=by
  rcases Nat.eq_zero_or_pos n with h0|h0
  ·rw[hh.1,h0]at ho;simp at ho
  ·exact h0
 obtain⟨g,cap,cur,rfl,hg,h3,h4,h5,h6⟩:=A3y hh hn
 have hcur:off<cur.size:=by
  have h7:xs.length≤cur.size:=by rw[←h6];simp;omega
  omega
 have hrun:=run_storeCells_at P g off e [u] 0 cur w hg (by simp;omega) (by simpa using h1)
 simp only[Nat.add_zero]at hrun
 refine⟨_,hrun,hw.change hH rfl rfl rfl (by simp[World.setRow]) ?_ ?_ ?_ (by simp[row,Value.ownBlock])⟩
 ·intro c _ hc
  exact Kx.setRow_other w g _ c (by simpa[row,Value.ownBlock]using hc)
 ·refine⟨by rw[List.length_set];exact hh.1,.inr ⟨g,cap,_,rfl,Nat.zero_le _,Kx.setRow_self' w g _ cur e _ hg,h3,h4,?_,?_⟩⟩
  ·simp;omega
  ·simp only[List.length_singleton]
   have:cur.toList.take off++[u]++cur.toList.drop (off+1)=cur.toList.set off u:=by
    rw[List.set_eq_take_append_cons_drop,if_pos (by simpa using hcur)];simp
   rw[this,List.take_set,h6]
 ·intro c hc;exact .inl hc
theorem B2B(L:List Int)(i:Nat)(y:Int):(flat L).set i (.int .i64 y)=flat (L.set i y):=by rw[A6q,A6q,List.map_set]
theorem A6h{x y:Operand}{t e:TypeId}{k i:Nat}{v:Value}{L:List Int}{u:Int}(hz:∀w,(sizeOf t).run P w= .ok 1 w)
 (hx:ev σ x=some (.pointer (some (rp v i)))) (hy:ev σ y=some (.int .i64 u)) (hH:B2 H k=some (A5 v e L)) (hi:i<L.length):
 OpTo P B m H σ (.store t x y) ty (fun _ m' H'=>m'=m∧H'=H4 H k (A5 v e (L.set i u))):=
 .ofRun trivial (D0 rfl hx hy) fun w hw o hop _=>by
  obtain⟨w',hr,hs⟩:=B1O (P:=P) (u:=.int .i64 u) (off:=i) hw hH (by rw[E7];simpa[Flat.n]using hi) rfl
  refine⟨undef,w',.inr ⟨by simp[execOp,hop,A6 hx,A6 hy,Instr.storeAt,Instr.sureAddr,storeVar,hz,Value.cells,hr],rfl⟩,m,_,⟨rfl,rfl⟩,?_⟩
  rw[B2B]at hs
  simpa[A5]using hs
theorem A0r(e:TypeId)(sz:Nat)(h:WK N B m (row (.slice none 0 0) e sz 0 []::H) σ K):WK N B m H σ K:=by
 intro Ds w hw a ha
 refine h Ds w ?_ a ha
 exact hw.push (Ext.refl w) _ (World.ownsRow_nil w 0 e sz) (by simp[row,Value.ownBlock]) (by simp[row,Value.ownBlock])
theorem G7(α:Type)[Flat α](e:TypeId)(h:WK N B m (A5 (.slice none 0 0) e ([]:List α)::H) σ K):WK N B m H σ K:=A0r e (Flat.n α) h
end
end Go.Kx
namespace Go.Kx
theorem L7{P:Program}{t:TypeId}{i:TypeInfo}(h:∀w,(typeInfo t).run P w= .ok i w):P.info? t=some i:=by
 have h1:=h default
 cases hi:P.info? t with
 |none=>simp[typeInfo,hi]at h1
 |some j=>simp[typeInfo,hi]at h1;rw[h1]
theorem C9{p:Prop}[Decidable p](h:p):Value.bool true= .bool (decide p):=by rw[decide_eq_true h]
theorem A9{p:Prop}[Decidable p](h:¬p):Value.bool false= .bool (decide p):=by rw[decide_eq_false h]
theorem A8{a b:Int}(h:a=b):Value.int .i64 a= .int .i64 b:=by rw[h]
theorem D5{p q:Prop}[Decidable p][Decidable q](h:p↔q):Value.bool (decide p)= .bool (decide q):=by simp[h]
theorem F8{a b a' b':Value}(h1:a=a')(h2:b=b'):Value.tuple #[a,b]= .tuple #[a',b']:=by rw[h1,h2]
theorem A3N{a b c a' b' c':Value}(h1:a=a')(h2:b=b')(h3:c=c'):Value.tuple #[a,b,c]= .tuple #[a',b',c']:=by rw[h1,h2,h3]
theorem A1P{α:Type}[Inhabited α]{a b:List α}(hl:a.length=b.length)(h:∀j,j<a.length→gt a j=gt b j):a=b:=by
 apply List.ext_getElem?
 intro j
 by_cases hj:j<a.length
 ·rw[A0W hj,A0W (by omega),h j hj]
 ·rw[List.getElem?_eq_none (by omega),List.getElem?_eq_none (by omega)]
def idx:Nat→List Value→List (Nat×Value)
 |_,[]=>[]
 |i,v::l=>(i,v)::idx (i+1) l
theorem B7G(off:Nat):∀(vs:List Value) (j:Nat) (acc:Array Value),off+j+vs.length≤acc.size→
 ((vs.zipIdx j).foldl (fun cs (p:Value×Nat)=>cs.setIfInBounds (off+p.2) p.1) acc).toList=acc.toList.take (off+j)++vs++acc.toList.drop (off+j+vs.length)
 | [],j,acc,_=>by simp
 |u::us,j,acc,h=>by
  simp only[List.length_cons]at h
  simp only[List.zipIdx_cons,List.foldl_cons]
  rw[B7G off us (j+1) _ (by simp;omega)]
  have hj:off+j<acc.toList.length:=by simp;omega
  simp only[Array.toList_setIfInBounds,List.length_cons]
  rw[←Nat.add_assoc,List.take_set,List.take_succ_eq_append_getElem hj,List.set_append]
  have h1:(acc.toList.take (off+j)).length=off+j:=by simp;omega
  rw[if_neg (by omega),h1,Nat.sub_self]
  have h2:(acc.toList.set (off+j) u).drop (off+j+1+us.length)=acc.toList.drop (off+j+(us.length+1)):=by
   rw[List.drop_set,if_pos (by omega)];congr 1;omega
  rw[h2]
  simp
theorem A8Y{sz:Nat}:∀(vals:List Value) (j:Nat) (acc:Array Value),(∀v∈vals,v.cells.size=sz)→(j+vals.length)*sz≤acc.size→
 ∃a,Instr.fill (fun i=>some (i*sz,sz)) acc (idx j vals)=some a∧a.toList=acc.toList.take (j*sz)++vals.flatMap (fun v=>v.cells.toList)++acc.toList.drop ((j+vals.length)*sz)
 | [],j,acc,_,_=>⟨acc,rfl,by simp⟩
 |v::vals,j,acc,hv,hl=>by
  have hvs:v.cells.size=sz:=hv v (List.mem_cons_self ..)
  have hj:j*sz+sz≤acc.size:=by
   have:(j+1)*sz≤(j+(vals.length+1))*sz:=Nat.mul_le_mul_right _ (by omega)
   rw[Nat.add_mul]at this;simp only[List.length_cons]at hl;omega
  have hset:=B7G (j*sz) v.cells.toList 0 acc (by simp[hvs];omega)
  simp only[Nat.add_zero,Array.length_toList,hvs]at hset
  simp only[Instr.fill,idx]
  rw[if_neg (by simp[hvs];omega)]
  rw[←Array.foldl_toList,Array.toList_zipIdx]
  generalize hacc:(v.cells.toList.zipIdx.foldl (fun cs (p:Value×Nat)=>cs.setIfInBounds (j*sz+p.2) p.1) acc)=acc' at hset
  have hsz':acc'.size=acc.size:=by
   have:=congrArg List.length hset
   simp[hvs]at this
   omega
  obtain⟨a,h1,h2⟩:=A8Y vals (j+1) acc' (fun u hu=>hv u (List.mem_cons_of_mem _ hu)) (by rw[hsz'];simp only[List.length_cons]at hl;rw[show j+1+vals.length=j+(vals.length+1) by omega];exact hl)
  refine⟨a,?_,?_⟩
  ·rw[←h1]
  ·have hjl:(acc.toList.take (j*sz)).length=j*sz:=by simp;omega
   have hcl:(acc.toList.take (j*sz)++v.cells.toList).length=(j+1)*sz:=by rw[List.length_append,hjl,Array.length_toList,hvs,Nat.add_mul];omega
   rw[h2,hset,List.take_append_of_le_length (by rw[hcl];omega),List.take_of_length_le (by rw[hcl];omega)]
   have hge:(j+1)*sz≤(j+1+vals.length)*sz:=Nat.mul_le_mul_right _ (by omega)
   rw[List.drop_append,List.drop_eq_nil_of_le (by rw[hcl];exact hge),hcl,List.drop_drop]
   simp only[List.flatMap_cons,List.append_assoc,List.nil_append,List.length_cons]
   congr 4
   have:(j+1+vals.length)*sz=(j+1)*sz+vals.length*sz:=by rw[Nat.add_mul]
   have h3:(j+1)*sz=j*sz+sz:=by rw[Nat.add_mul];omega
   rw[show j+(vals.length+1)=j+1+vals.length by omega]
   omega
def RdVs{α:Type}[Enc α](m:Mem):List Value→List α→Prop
 | [],[]=>True
 |v::vs,x::L=>(∃cs,v.cells=cs.toArray∧Enc.rd m cs x)∧RdVs m vs L
 |_,_=>False
theorem RdVs.nil{α:Type}[Enc α]{m:Mem}:RdVs (α:=α) m [] []:=trivial
theorem RdVs.cons{α:Type}[Enc α]{m:Mem}{v:Value}{vs:List Value}{x:α}{L:List α}{cs:List Value}(h1:v.cells=cs.toArray)(h2:Enc.rd m cs x)(h:RdVs m vs L):RdVs m (v::vs) (x::L):=⟨⟨cs,h1,h2⟩,h⟩
theorem RdVs.rdl{α:Type}[Enc α]{m:Mem}:∀{vs:List Value} {L:List α},RdVs m vs L→RdL m (vs.flatMap fun v=>v.cells.toList) L∧vs.length=L.length∧∀v∈vs,v.cells.size=Enc.sz α
 | [],[],_=>⟨RdL.nil,rfl,by simp⟩
 | [],_::_,h=>h.elim
 |_::_,[],h=>h.elim
 |v::vs,x::L,⟨⟨cs,h1,h2⟩,h⟩=>by
  obtain⟨⟨g1,g1'⟩,g2,g3⟩:=RdVs.rdl h
  have hc:v.cells.toList=cs:=by rw[h1]
  have hlen:cs.length=Enc.sz α:=Enc.len h2
  refine⟨⟨?_,?_⟩,by simp[g2],?_⟩
  ·simp only[List.flatMap_cons,List.length_append,hc,hlen,g1,List.length_cons,Nat.add_mul];omega
  ·intro i y hy
   cases i with
   |zero=>
    simp at hy;subst hy
    refine⟨cs,h2,fun j u hu=>?_⟩
    simp only[List.flatMap_cons,hc,Nat.zero_mul,Nat.zero_add]
    rw[List.getElem?_append_left (List.getElem?_eq_some_iff.1 hu).1];exact hu
   |succ i=>
    obtain⟨us,h3,h4⟩:=g1' i y (by simpa using hy)
    refine⟨us,h3,fun j u hu=>?_⟩
    have:=h4 j u hu
    simp only[List.flatMap_cons,hc]
    rw[List.getElem?_append_right (by rw[hlen,Nat.add_mul];omega),hlen,←this]
    congr 1;rw[Nat.add_mul];omega
  ·intro u hu
   cases hu with
   |head=>rw[h1];simpa using hlen
   |tail _ hu=>exact g3 u hu
section
variable{M:Option Nat}{P:Program}{N:Nat}{ops:Array Oper}{Q:Exit→Act→World→Prop}{B:Base}{m:Mem}{H:List Ent}{σ:B5}{rest:List Oper}
 {d:Nat} {op:Op} {ty:TypeId} {pos:String} {after:Array Edge} {K:Act→World→Prop}
theorem L5{α:Type}[Enc α]{t e:TypeId}{bytes n:Nat}{z:Value}{parts:List (Nat×Operand)}{vals:List Value}{L:List α}(hS:SlT P t e (Enc.sz α) bytes z)
 (hv:evp σ parts=some (idx 0 vals)) (hr:RdVs m vals L) (hn:vals.length=n) (hm:Nat.ble (n*Enc.sz α) 16777216=true):
 OpTo P B m H σ (.buildSlice t n parts.toArray) ty (fun v m' H'=>H'=H∧m.le m'∧Sl m' v L):=
 .ofRun trivial (by intro x hx;exact(A2S hv).2 x (by simpa[Op.operands]using hx)) fun w hw o ho _=>by
  obtain⟨h1,h2,h3⟩:=hr.rdl
  have h16:¬16777216<n*Enc.sz α:=by have:=Nat.le_of_ble_eq_true hm;omega
  obtain⟨a,hf,ha⟩:=A8Y (sz:=Enc.sz α) vals 0 ((Array.range (n*Enc.sz α)).map (z.cells[· %z.cells.size]!)) h3 (by simp[hn])
  have ha':a.toList=vals.flatMap fun v=>v.cells.toList:=by
   rw[ha];simp[hn]
  have hp:((parts.toArray.map fun(x:Nat×Operand)=>(x.1,S2 σ x.2)).toList)=idx 0 vals:=by simpa using(A2S hv).1
  obtain⟨g1,g2⟩:=hw.freshMem (.cells a e)
  refine⟨.slice (some ⟨w.heap.size,0,none⟩) n n,w.alloc (.cells a e),.inl ?_,_,H,⟨rfl,g2,?_⟩,g1⟩
  ·have hp':(Array.map (fun x:Nat×Operand=>match x with|(i,x)=>(i,S2 σ x)) parts.toArray).toList=idx 0 vals:=hp
   simp only[execOp,ho,Instr.buildSlice,Sem.run_bind,hS.u,Result.andThen_ok,hS.s]
   rw[if_neg h16]
   rw[hp']
   by_cases h0:n*Enc.sz α=0
   ·rw[if_pos h0]
    have:vals=[]:=by
     have:=Enc.pos (α:=α)
     rcases Nat.mul_eq_zero.1 h0 with h|h
     ·rw[h]at hn;exact List.eq_nil_of_length_eq_zero hn
     ·omega
    subst this
    simp[idx,Instr.fill]at hf⊢
    simp at hn;subst hn
    simp[newRow]
    have:a=#[]:=by apply Array.ext';rw[ha'];rfl
    rw[this];congr 2
    exact Array.ext' (by simp[Array.range])
   ·rw[if_neg h0]
    simp only[Sem.run_bind,hS.zr,Result.andThen_ok,Sem.run_pure]
    rw[hf]
    simp[newRow]
  ·rw[←hn,h2]
   refine .some _ _ _ (fun _=>rfl) (Nat.le_refl _) ?_ ?_ ?_
   ·have:=Nat.le_of_ble_eq_true hm
    have hpz:=Enc.pos (α:=α)
    have:n≤n*Enc.sz α:=Nat.le_mul_of_pos_right _ hpz
    unfold C8;omega
   ·have:=Nat.le_of_ble_eq_true hm
    have hpz:=Enc.pos (α:=α)
    have:n≤n*Enc.sz α:=Nat.le_mul_of_pos_right _ hpz
    simp only[maxLen];omega
   ·intro i x hix
    obtain⟨us,h4,h5⟩:=h1.2 i x hix
    refine⟨us,Enc.mono g2 h4,rfl,a,e,(0,0),by simp[Mem.put],?_⟩
    intro j u hu
    have:=h5 j u hu
    rw[←ha']at this
    simpa using this
theorem A3z{a:Array Value}{w:World}{t T':TypeId}{k b:Nat}{cs:List Value}(hw:St B m H w)(ha:∀t v,lk σ t=some v→a[t]?=some v)(hv:lk σ t=some (.pointer (some ⟨b,0,none⟩)))(hH:B2 H k=some (blk b T' cs))
 (hg:∀w,(isAgg T').run P w= .ok true w) (hz:∀w,(sizeOf T').run P w= .ok cs.length w):
 a.getD t undef= .pointer (some ⟨b,0,none⟩)∧(loadVar T' ⟨b,0,none⟩).run P w= .ok (.agg cs.toArray) w:=by
 have h1:=ha t _ hv
 have hl:=run_loadCells_list (P:=P) w ⟨b,0,none⟩ cs (fun j v hj=>by
  rw[B9 rfl,A4x hw hH];simpa using hj)
 exact⟨by rw[Array.getD_eq_getD_getElem?,h1];rfl,by simp[loadVar,hg,hz,hl]⟩
theorem T3{fn:Func}{R:Ending→World→Prop}{t T':Nat}(k:Nat){b:Nat}{cs:List Value}(hres:fn.results=#[.cell t T'])(hv:lk σ t=some (.pointer (some ⟨b,0,none⟩)))(hH:B2 H k=some (blk b T' cs))
 (hg:∀w,(isAgg T').run P w= .ok true w) (hz:∀w,(sizeOf T').run P w= .ok cs.length w) (hR:∀w,St B m H w→R (.returned (.agg cs.toArray)) w):WK N B m H σ (L8 P fn R .ret):=
 A2F (.inl rfl) (fun w hw a ha=>by
  obtain⟨h1,h2⟩:=A3z hw ha hv hH hg hz
  rw[Array.getD_eq_getD_getElem?]at h1
  simp[results,hres,h1,asAddr,h2]) hR
theorem F2{fn:Func}{R:Ending→World→Prop}{t T' u:Nat}(k:Nat){b:Nat}{cs:List Value}{v:Value}(hres:fn.results=#[.cell t T',.tmp u])(hv:lk σ t=some (.pointer (some ⟨b,0,none⟩)))(hu:lk σ u=some v)(hH:B2 H k=some (blk b T' cs))
 (hg:∀w,(isAgg T').run P w= .ok true w) (hz:∀w,(sizeOf T').run P w= .ok cs.length w) (hR:∀w,St B m H w→R (.returned (.tuple #[.agg cs.toArray,v])) w):WK N B m H σ (L8 P fn R .ret):=
 A2F (.inl rfl) (fun w hw a ha=>by
  obtain⟨h1,h2⟩:=A3z hw ha hv hH hg hz
  rw[Array.getD_eq_getD_getElem?]at h1
  have h3:=ha u v hu
  simp[results,hres,h1,asAddr,h2,h3]) hR
theorem A2T{fn:Func}{R:Ending→World→Prop}{t T' t' T'' u:Nat}(k k':Nat){b b':Nat}{cs cs':List Value}{v:Value}(hres:fn.results=#[.cell t T',.cell t' T'',.tmp u])(hv:lk σ t=some (.pointer (some ⟨b,0,none⟩)))(hv':lk σ t'=some (.pointer (some ⟨b',0,none⟩)))(hu:lk σ u=some v)
 (hH:B2 H k=some (blk b T' cs)) (hH':B2 H k'=some (blk b' T'' cs'))
 (hg:∀w,(isAgg T').run P w= .ok true w) (hz:∀w,(sizeOf T').run P w= .ok cs.length w) (hg':∀w,(isAgg T'').run P w= .ok true w) (hz':∀w,(sizeOf T'').run P w= .ok cs'.length w)
 (hR:∀w,St B m H w→R (.returned (.tuple #[.agg cs.toArray,.agg cs'.toArray,v])) w):WK N B m H σ (L8 P fn R .ret):=
 A2F (.inl rfl) (fun w hw a ha=>by
  obtain⟨h1,h2⟩:=A3z hw ha hv hH hg hz
  obtain⟨h4,h5⟩:=A3z hw ha hv' hH' hg' hz'
  rw[Array.getD_eq_getD_getElem?]at h1 h4
  have h3:=ha u v hu
  simp[results,hres,h1,asAddr,h2,h3,h4,h5]) hR
def C6h(B:Base)(m:Mem):Prop:=B.m.le m∧∀b,b<B.w.heap.size→m b=B.m b
theorem K6(h:C6h B m→WK N B m H σ K):WK N B m H σ K:=fun Ds w hw a ha=>h ⟨hw.le,hw.new⟩ Ds w hw a ha
theorem E5{m0:Mem}(hg:C6h B m0)(hle:m0.le m)(h:WK N B m0 H σ K):WK N B m H σ K:=fun Ds w hw a ha=>h Ds w
 {hw with
  sub:=fun b o hb=>hw.sub b o (hle b o hb)
  le:=hg.1
  new:=hg.2
  avoid:=fun b hb=>by
   cases hm:m0 b with
   |none=>rfl
   |some o=>have:=hw.avoid b hb;rw[hle b o hm]at this;cases this} a ha
end
end Go.Kx
