import Derived.Test.YtooomcigmleneaaGreatKxC
set_option linter.all false
namespace Go.Kx
section
variable{P:Program}{B:Base}{m:Mem}{H:List Ent}{σ:B5}{ty:TypeId}
theorem A7S{w:World}(hw:St B m H w){k b:Nat}{T:TypeId}{cs:List Value}(hH:B2 H k=some (blk b T cs)):∀j u,cs[j]?=some u→w.cell? ((⟨b,0,none⟩:Addr).add j)=some u:=by
 intro j u hu
 rw[B9 rfl,A4x hw hH];simpa using hu
theorem C2a{k:Nat}{e:Ent}:∀{H:List Ent},B2 H k=some e→H4 H k e=H:=by
 induction k with
 |zero=>intro H h;cases H <;> simp[B2,H4]at h ⊢; exact h.symm
 |succ k ih=>intro H h;cases H <;> simp[B2,H4]at h ⊢; exact ih h
theorem B7D{w:World}{t e:TypeId}{sz bytes:Nat}{z:Value}(hS:SlT P t e sz bytes z){v:Value}{n:Nat}{xs:List Value}
 (hown:w.ownsRow 0 e sz v n xs) {p:Addr} {c cap:Nat} {news:List Value} (hl:news.length=c*sz) (hn:∀j u,news[j]?=some u→w.cell? (p.add j)=some u)
 (h1:∀u∈news,u.oneCell'=true) (hb:(n+c)*bytes≤140737488355328) (h63:n+c≤9223372036854775807):
 ∃v' w',(Builtin.append_ #[t,t] ty #[v,.slice (some p) c cap]).run P w= .ok v' w'∧w'.ownsRow 0 e sz v' (n+c) (xs++news)∧w.grownBy w' v.ownBlock∧
  (v'.ownBlock=v.ownBlock∨v'.ownBlock=some w.heap.size)∧(v'= .slice none 0 0↔v= .slice none 0 0∧c=0):=by
 obtain⟨i,hi,hz,hs,hby⟩:=hS.hi
 have hzs:=hS.hz
 have ht:=hS.ht
 subst hs;subst hby
 have hlen:(xs++news).length=(n+c)*i.size:=by rw[List.length_append,hown.1,hl,Nat.add_mul]
 have new:∀old:Nat,
  (w.drew.alloc (.cells (xs.toArray++news.toArray++Builtin.zeroCells z.cells (grownCap w (n+c) old e-(n+c))) e)).ownsRow 0 e i.size
   (.slice (some ⟨w.heap.size,0,none⟩) (n+c) (grownCap w (n+c) old e)) (n+c) (xs++news):=by
  intro old
  have hge:=grownCap_ge w (n+c) old e
  refine⟨hlen,.inr ⟨w.heap.size,_,_,rfl,Nat.zero_le _,heap_alloc_new w.drew _,hge,grownCap_le_maxLen w (n+c) old e (by simpa[maxLen]using h63),?_,?_⟩⟩
  ·simp only[Array.size_append,List.size_toArray,size_zeroCells,hzs,hown.1,hl,←Nat.add_mul]
   congr 1
   omega
  ·simp only[Array.toList_append,List.append_assoc]
   rw[←List.append_assoc,←hlen]
   exact List.take_left
 have B2X:∀o row,w.grownBy (w.drew.alloc o) row:=fun o row=>⟨rfl,rfl,rfl,by simp,fun k hk _=>by
  show(w.heap.push o)[k]?=_;rw[Array.getElem?_push,if_neg (Nat.ne_of_lt hk)]⟩
 rcases hown.2 with⟨rfl,rfl⟩|⟨g,cp,cur,rfl,hbg,hg,hnc,hcm,hcs,htake⟩
 ·have hx:xs=[]:=List.eq_nil_of_length_eq_zero (by simpa using hown.1)
  subst hx
  by_cases hm:c=0
  ·subst hm
   have hnn:news=[]:=List.eq_nil_of_length_eq_zero (by simpa using hl)
   subst hnn
   refine⟨.slice none 0 0,w,?_,hown,⟨rfl,rfl,rfl,Nat.le_refl _,fun _ _ _=>rfl⟩,.inl rfl,by simp⟩
   simp[Builtin.append_,run_underlying ht,sizeOf,typeInfo,hi,Builtin.lenOf,Builtin.firstCells,loadCells,loadCellsFrom]
  ·have hr:=run_append_nil (P:=P) w t ty e i z ht hi hz p c cap news hl hn (by omega) (by omega) (by have:=hb;simp only[Nat.zero_add]at this;omega)
   have hgr:=new 0
   simp only[Nat.zero_add,List.nil_append,Array.empty_append]at hgr⊢
   exact⟨_,_,hr,hgr,B2X _ _,.inr rfl,by simp[hm]⟩
 ·by_cases hroom:n+c≤cp
  ·have hfit:n*i.size+news.length≤cur.size:=by rw[hl,hcs,←Nat.add_mul];exact Nat.mul_le_mul_right _ hroom
   have hr:=run_append_room (P:=P) w t ty e i ht hi g n cp cur hg p c cap news hl hn h1 hroom hfit
   refine⟨_,_,hr,⟨hlen,.inr ⟨g,cp,_,rfl,Nat.zero_le _,Kx.setRow_self' w g _ cur e _ hg,hroom,hcm,?_,?_⟩⟩,⟨rfl,rfl,rfl,by simp[World.setRow],fun k _ hk=>Kx.setRow_other w g _ k (fun e=>hk (by simp[Value.ownBlock,e]))⟩,.inl rfl,by simp⟩
   ·simp only[List.size_toArray,List.length_append,List.length_take,List.length_drop,Array.length_toList]
    omega
   ·rw[htake,←hlen]
    exact List.take_left
  ·have holds:∀j u,xs[j]?=some u→w.cell? ((⟨g,0,none⟩:Addr).add j)=some u:=hown.cells (g:=g) rfl
   have hr:=run_append_grow (P:=P) w t ty e i z ht hi hz ⟨g,0,none⟩ n cp xs hown.1 holds p c cap news hl hn (by omega) (by omega) (growslice_fits (by omega) hb)
   exact⟨_,_,hr,new cp,B2X _ _,.inr rfl,by simp⟩
theorem A9Y{w:World}(hw:St B m H w){t e:TypeId}{sz bytes:Nat}{z:Value}(hS:SlT P t e sz bytes z){k:Nat}{v:Value}{n:Nat}{xs:List Value}
 (hH:B2 H k=some (row v e sz n xs)) {p:Addr} {c cap:Nat} {news:List Value} (hl:news.length=c*sz) (hn:∀j u,news[j]?=some u→w.cell? (p.add j)=some u)
 (h1:∀u∈news,u.oneCell'=true) (hb:(n+c)*bytes≤140737488355328) (h63:n+c≤9223372036854775807):
 ∃v' w',(Builtin.append_ #[t,t] ty #[v,.slice (some p) c cap]).run P w= .ok v' w'∧St B m (H4 H k (row v' e sz (n+c) (xs++news))) w'∧(v'= .slice none 0 0↔v= .slice none 0 0∧c=0):=by
 obtain⟨v',w',hr,ho,hg,hblk,hnil⟩:=B7D (P:=P) (ty:=ty) (cap:=cap) hS (C1 hw hH) hl hn h1 hb h63
 refine⟨v',w',hr,?_,hnil⟩
 refine hw.change hH hg.os hg.tape hg.output hg.size (fun b hb' hne=>hg.block b hb' (fun e=>hne (by simp[row,←e]))) ho ?_ (by simp only[row];cases v'.ownBlock <;> simp)
 intro b hb'
 simp only[row,Option.mem_toList]at hb'⊢
 rcases hblk with h|h
 ·rw[h]at hb';exact .inl hb'
 ·rw[h]at hb';cases hb';exact .inr (Nat.le_refl _)
theorem T.append{s x:Operand}{t e:TypeId}{sz bytes:Nat}{z:Value}(hS:SlT P t e sz bytes z){k b:Nat}{T:TypeId}{v:Value}{n c cap:Nat}{xs news:List Value}{H1:List Ent}
 (hs:ev σ s=some v) (hx:ev σ x=some (.slice (some ⟨b,0,none⟩) c cap)) (hH1:H=blk b T news::H1) (hH:B2 H1 k=some (row v e sz n xs)) (hl:news.length=c*sz) (h1:∀u∈news,u.oneCell'=true)
 (hb:(n+c)*bytes≤140737488355328) (h63:n+c≤9223372036854775807):
 OpTo P B m H σ (.call (Call.mk (.builtin .append) #[s,x] #[t,t])) ty (fun v' m' H'=>m'=m∧H'=H4 H1 k (row v' e sz (n+c) (xs++news))):=
 .ofRun trivial (D0 (by simp[Op.operands,Call.operands]) hs hx) fun w hw o ho hty=>by
  subst hH1
  have hsrc:=A7S hw (k:=0) (b:=b) (T:=T) (cs:=news) rfl
  have hw1:St _ m H1 w:=hw.weaken (List.sublist_cons_self _ _)
  obtain⟨v',w',hr,hst,_⟩:=A9Y (P:=P) (ty:=o.type) (cap:=cap) hw1 hS hH hl hsrc h1 hb h63
  refine⟨v',w',.inl ?_,m,_,⟨rfl,rfl⟩,hst⟩
  simp[execOp,ho,resolve,invoke,builtin,A6 hs,A6 hx,hr]
theorem E2{α:Type}[Flat α]{s x:Operand}{t e:TypeId}{bytes:Nat}{z:Value}(hS:SlT P t e (Flat.n α) bytes z){k b:Nat}{T':TypeId}{v:Value}{cap:Nat}{L:List α}{a:α}{H1:List Ent}
 (hs:ev σ s=some v) (hx:ev σ x=some (.slice (some ⟨b,0,none⟩) 1 cap)) (hH1:H=blk b T' (Flat.enc a)::H1) (hH:B2 H1 k=some (A5 v e L))
 (hb:(L.length+1)*bytes≤140737488355328) (hby:0<bytes):
 OpTo P B m H σ (.call (Call.mk (.builtin .append) #[s,x] #[t,t])) ty (fun v' m' H'=>m'=m∧H'=H4 H1 k (A5 v' e (L++[a]))):=by
 have h63:L.length+1≤9223372036854775807:=by
  have:=Nat.le_mul_of_pos_right (L.length+1) hby
  omega
 have:=Kx.T.append (P:=P) (B:=B) (m:=m) (ty:=ty) hS hs hx hH1 hH (by rw[Flat.len];simp) (Flat.one a) hb h63
 refine⟨this.sel,this.defd,fun M B w hw o ac next Q ho ht k'=>this.run M B w hw o ac next Q ho ht fun v' m' H' w' h hst=>k' v' m' H' w' ⟨h.1,?_⟩ hst⟩
 rw[h.2]
 simp[A5,flat]
theorem E6{x:Operand}{t e:TypeId}{sz bytes:Nat}{z:Value}(hS:SlT P t e sz bytes z){v:Value}{cs:List Value}(hx:ev σ x=some v)(hc:v.cells=cs.toArray)(hl:cs.length=sz)(hm:sz≤16777216):
 OpTo P B m H σ (.buildSlice t 1 #[(0,x)]) ty (fun u m' H'=>m'=m∧∃b,u= .slice (some ⟨b,0,none⟩) 1 1∧H'=blk b e cs::H):=
 .ofRun trivial (I8 (by simp[Op.operands]) hx) fun w hw o ho _=>by
  have hp:=hS.pos
  have hfill:Instr.fill (fun i=>some (i*sz,sz)) ((Array.range (1*sz)).map (z.cells[· %z.cells.size]!)) [(0,v)]=some cs.toArray:=by
   simp only[Instr.fill,hc,Nat.zero_mul]
   rw[if_neg (by simp[hl])]
   congr 1
   apply Array.ext'
   rw[←Array.foldl_toList,Array.toList_zipIdx]
   have gen:∀(vs:List Value) (j:Nat) (acc:Array Value),acc.size=j+vs.length→((vs.zipIdx j).foldl (fun cs (c,j)=>cs.setIfInBounds (0+j) c) acc).toList=acc.toList.take j++vs:=by
    intro vs
    induction vs with
    |nil=>intro j acc h;simp at h ⊢; rw[List.take_of_length_le (by simp;omega)]
    |cons u us ih=>
     intro j acc h
     simp only[List.zipIdx_cons,List.foldl_cons,Nat.zero_add]at ih⊢
     rw[ih (j+1) _ (by simp at h ⊢; omega)]
     simp only[Array.toList_setIfInBounds]
     have hj:j<acc.toList.length:=by simp at h ⊢; omega
     rw[List.take_set,List.take_succ_eq_append_getElem hj,List.set_append]
     simp
     rw[if_neg (by omega)]
     have:j-min j acc.size=0:=by simp at hj;omega
     simp[this]
   rw[gen cs 0 _ (by simp[hl])]
   simp
  refine⟨.slice (some ⟨w.heap.size,0,none⟩) 1 1,w.alloc (.cells cs.toArray e),.inl ?_,m,_,⟨rfl,_,rfl,rfl⟩,
   hw.push (Ext.alloc w _) (blk w.heap.size e cs) (by show(w.heap.push _)[_]?=_;simp) (by simp[blk]) (by simp[blk])⟩
  simp only[Nat.one_mul]at hfill
  have h16:¬16777216<sz:=by omega
  have h0:¬sz=0:=by omega
  simp[execOp,ho,Instr.buildSlice,hS.u,hS.s,hS.zr,A6 hx,h16,h0,hfill,newRow]
end
end Go.Kx
namespace Go.Kx
theorem St.freezeX{B:Base}{m:Mem}{H:List Ent}{w:World}(h:St B m H w){k:Nat}{e:Ent}(hX:∀b∈e.ids,b ∉ B.X)(hH:B2 H k=some e):
 St B (fun b=>if b∈e.ids then w.heap[b]? else m b) (Z4 H k) w∧m.le (fun b=>if b∈e.ids then w.heap[b]? else m b):=by
 obtain⟨A,C,h1,_,h3⟩:=X0 hH
 have hle:m.le (fun b=>if b∈e.ids then w.heap[b]? else m b):=by
  intro b o hb
  dsimp only
  split
  ·exact h.sub b o hb
  ·exact hb
 have hin:∀b∈e.ids,b∈B7 H:=fun b hb=>A2n (by rw[h1];simp) hb
 refine⟨?_,hle⟩
 rw[h3]
 have hs:(A++C).Sublist H:=by rw[h1];exact List.Sublist.append (List.Sublist.refl _) (List.sublist_cons_self _ _)
 have hw:=h.weaken hs
 have hdis:∀b∈e.ids,b ∉ B7 (A++C):=by
  have hnd:=h.nodup
  rw[h1,E0,B7]at hnd
  intro b hb hc
  rw[E0]at hc
  have h4:=List.nodup_append.1 hnd
  rcases List.mem_append.1 hc with hc|hc
  ·exact h4.2.2 b hc b (List.mem_append_left _ hb) rfl
  ·exact(List.nodup_append.1 h4.2.1).2.2 b hb b hc rfl
 refine{hw with sub:=?_,le:=Mem.le_trans h.le hle,new:=?_,avoid:=?_}
 ·intro b o hb
  dsimp only at hb
  split at hb
  ·exact hb
  ·exact h.sub b o hb
 ·intro b hb
  rw[if_neg (fun hc=>by
   rcases h.ids b (hin b hc)with h5|h5
   ·exact hX b hc h5
   ·exact absurd hb (Nat.not_lt.2 h5))]
  exact h.new b hb
 ·intro b hb
  rw[if_neg (fun hc=>hdis b hc hb)]
  exact hw.avoid b hb
theorem St.freeze{B:Base}{m:Mem}{H:List Ent}{w:World}(h:St B m H w)(hX:B.X=[]){k:Nat}{e:Ent}(hH:B2 H k=some e):
 St B (fun b=>if b∈e.ids then w.heap[b]? else m b) (Z4 H k) w∧m.le (fun b=>if b∈e.ids then w.heap[b]? else m b):=h.freezeX (by rw[hX];simp) hH
theorem St.apart{B:Base}{m:Mem}{A C:List Ent}{w:World}(h:St B m (A++C) w){k:Nat}{e:Ent}(hH:B2 A k=some e):∀b∈e.ids,b ∉ B7 C:=by
 obtain⟨A1,A2,h1,_,_⟩:=X0 hH
 have hnd:=h.nodup
 rw[E0]at hnd
 intro b hb hc
 exact(List.nodup_append.1 hnd).2.2 b (A2n (by rw[h1];simp) hb) b hc rfl
def RdL{α:Type}[Enc α](m:Mem)(xs:List Value)(L:List α):Prop:=
 xs.length=L.length*Enc.sz α∧∀(i:Nat) (x:α),L[i]?=some x→∃vs,Enc.rd m vs x∧∀(j:Nat) (u:Value),vs[j]?=some u→xs[i*Enc.sz α+j]?=some u
theorem RdL.mono{α:Type}[Enc α]{m m':Mem}{xs:List Value}{L:List α}(h:RdL m xs L)(hm:m.le m'):RdL m' xs L:=
 ⟨h.1,fun i x hx=>by obtain⟨vs,h1,h2⟩:=h.2 i x hx;exact⟨vs,Enc.mono hm h1,h2⟩⟩
theorem RdL.nil{α:Type}[Enc α]{m:Mem}:RdL (α:=α) m [] []:=⟨by simp,fun i x h=>by simp at h⟩
theorem X6{α:Type}[Enc α]{m:Mem}{xs vs:List Value}{L:List α}{a:α}(h:RdL m xs L)(ha:Enc.rd m vs a):RdL m (xs++vs) (L++[a]):=by
 refine⟨by rw[List.length_append,h.1,Enc.len ha,List.length_append,Nat.add_mul];simp,?_⟩
 intro i x hx
 rw[List.getElem?_append]at hx
 split at hx
 ·rename_i hi
  obtain⟨us,h1,h2⟩:=h.2 i x hx
  refine⟨us,h1,fun j u hu=>?_⟩
  have:=h2 j u hu
  rw[List.getElem?_append_left (List.getElem?_eq_some_iff.1 this).1];exact this
 ·rename_i hi
  have h0:i-L.length=0:=by
   rcases Nat.eq_zero_or_pos (i-L.length)with h0|h0
   ·exact h0
   ·rw[List.getElem?_eq_none (by simp;omega)]at hx;cases hx
  rw[h0]at hx;simp at hx;subst hx
  have hi':i=L.length:=by omega
  subst hi'
  refine⟨vs,ha,fun j u hu=>?_⟩
  rw[List.getElem?_append_right (by rw[h.1];omega),h.1,Nat.add_sub_cancel_left];exact hu
class FlatEnc(α:Type)[Flat α][Enc α]:Prop where
 sz:Enc.sz α=Flat.n α
 rd:∀(m:Mem) (x:α),Enc.rd m (Flat.enc x) x
instance:FlatEnc Int:=⟨rfl,fun _ _=>rfl⟩
instance:FlatEnc Bool:=⟨rfl,fun _ _=>rfl⟩
theorem RdL.flat{α:Type}[Flat α][Enc α][FlatEnc α](m:Mem)(L:List α):RdL m (Kx.flat L) L:=
 ⟨by rw[E7,FlatEnc.sz],fun i x hx=>⟨Flat.enc x,FlatEnc.rd m x,fun j u hu=>by rw[FlatEnc.sz];exact A4L L i x hx j u hu⟩⟩
section
variable{M:Option Nat}{P:Program}{N:Nat}{ops:Array Oper}{Q:Exit→Act→World→Prop}{B:Base}{m:Mem}{H:List Ent}{σ:B5}{rest:List Oper}
 {d:Nat} {op:Op} {ty:TypeId} {pos:String} {after:Array Edge} {K:Act→World→Prop}
theorem N4{α:Type}[Enc α]{v:Value}{e:TypeId}{xs:List Value}{L:List α}(k:Nat)(hX:B.X=[])(hH:B2 H k=some (row v e (Enc.sz α) L.length xs))(hx:RdL m xs L)(hl:L.length≤C8)
 (kk:∀m',m.le m'→Sl m' v L→WK N B m' (Z4 H k) σ K):WK N B m H σ K:=by
 intro Ds w hw a ha
 have hr:(row v e (Enc.sz α) L.length xs).holds w:=C1 hw (U3 hH)
 obtain⟨h1,h2⟩:=hw.freeze hX (U3 hH)
 rw[B1o hH]at h1
 refine kk _ h2 ?_ Ds w h1 a ha
 rcases hr.2 with⟨rfl,h0⟩|⟨g,cap,cur,rfl,_,hg,hnc,hcm,hcs,htake⟩
 ·have:L=[]:=List.eq_nil_of_length_eq_zero h0
  subst this;exact .nil
 ·refine .some _ _ _ (fun _=>rfl) hnc hl hcm ?_
  intro i x hix
  obtain⟨vs,h3,h4⟩:=hx.2 i x hix
  refine⟨vs,Enc.mono h2 h3,rfl,cur,e,(0,0),by simp[row,Value.ownBlock,hg],?_⟩
  intro j u hu
  have h5:=h4 j u hu
  rw[←htake,List.getElem?_take]at h5
  split at h5
  ·simpa[Nat.add_assoc]using h5
  ·cases h5
theorem E1{α:Type}[Flat α][Enc α][FlatEnc α]{v:Value}{e:TypeId}{L:List α}(k:Nat)(hX:B.X=[])(hH:B2 H k=some (A5 v e L))(hl:L.length≤C8)
 (kk:∀m',m.le m'→Sl m' v L→WK N B m' (Z4 H k) σ K):WK N B m H σ K:=
 N4 k hX (by rw[FlatEnc.sz];exact hH) (RdL.flat m L) hl kk
theorem A0F{b:Nat}{T':TypeId}{cs:List Value}(k:Nat)(hX:B.X=[])(hH:B2 H k=some (blk b T' cs))
 (kk:∀m',m.le m'→Cells m' ⟨b,0,none⟩ cs→WK N B m' (Z4 H k) σ K):WK N B m H σ K:=by
 intro Ds w hw a ha
 have hr:(blk b T' cs).holds w:=C1 hw (U3 hH)
 obtain⟨h1,h2⟩:=hw.freeze hX (U3 hH)
 rw[B1o hH]at h1
 exact kk _ h2 ⟨rfl,cs.toArray,T',(0,0),by simp only[blk]at hr ⊢; simp[hr],fun j v hv=>by simpa using hv⟩ Ds w h1 a ha
theorem A6A{α:Type}[Enc α]{b:Nat}{T':TypeId}{cs:List Value}{x:α}(k:Nat)(hX:B.X=[])(hH:B2 H k=some (blk b T' cs))(hx:Enc.rd m cs x)
 (kk:∀m',m.le m'→At m' ⟨b,0,none⟩ x→WK N B m' (Z4 H k) σ K):WK N B m H σ K:=
 A0F k hX hH fun m' hm hc=>kk m' hm ⟨cs,Enc.mono hm hx,hc⟩
end
end Go.Kx
namespace Go.Kx
section
variable{M:Option Nat}{P:Program}{N:Nat}{ops:Array Oper}{Q:Exit→Act→World→Prop}{B:Base}{m:Mem}{H:List Ent}{σ:B5}{rest:List Oper}
 {d:Nat} {op:Op} {ty:TypeId} {pos:String} {after:Array Edge} {K:Act→World→Prop}
theorem P5{α:Type}{V:α→Value}{F:α→Prop}(h:E P B m H σ op ty V F)(hd:d<N)(k:∀x,F x→WL M P N ops Q B m H ((d,V x)::σ) rest):
 WL M P N ops Q B m H σ (⟨some d,op,ty,pos,after,none⟩::rest):=by
 obtain⟨x,h1,h2⟩:=h;exact WL.x h1 hd (k x h2)
theorem WL.cond{p:Prop}[Decidable p](h:OpX P B m H σ op ty (.bool (decide p)))(hd:d<N)(hy:p→WL M P N ops Q B m H ((d,.bool true)::σ) rest)
 (hn:¬p→WL M P N ops Q B m H ((d,.bool false)::σ) rest):WL M P N ops Q B m H σ (⟨some d,op,ty,pos,after,none⟩::rest):=by
 refine WL.x h hd ?_
 by_cases hp:p
 ·rw[decide_eq_true hp];exact hy hp
 ·rw[decide_eq_false hp];exact hn hp
theorem B9V{p:Prop}[Decidable p](h:OpX P B m H σ op ty (.bool (decide (¬p))))(hd:d<N)(hy:¬p→WL M P N ops Q B m H ((d,.bool true)::σ) rest)
 (hn:p→WL M P N ops Q B m H ((d,.bool false)::σ) rest):WL M P N ops Q B m H σ (⟨some d,op,ty,pos,after,none⟩::rest):=
 WL.cond h hd hy (fun h=>hn (Decidable.of_not_not h))
theorem K2{b:Bool}(h:OpX P B m H σ op ty (.bool b))(hd:d<N)(hy:b=true→WL M P N ops Q B m H ((d,.bool true)::σ) rest)
 (hn:b=false→WL M P N ops Q B m H ((d,.bool false)::σ) rest):WL M P N ops Q B m H σ (⟨some d,op,ty,pos,after,none⟩::rest):=by
 refine WL.x h hd ?_
 cases b
 ·exact hn rfl
 ·exact hy rfl
theorem D1{R:Mem→Value→Prop}(h:OpTo P B m H σ op ty (fun v m' H'=>H'=H∧m.le m'∧R m' v))(hd:d<N)
 (k:∀m' v,m.le m'→R m' v→WL M P N ops Q B m' H ((d,v)::σ) rest):WL M P N ops Q B m H σ (⟨some d,op,ty,pos,after,none⟩::rest):=
 O4 h hd fun v m' H' ⟨h1,h2,h3⟩=>by subst h1;exact k m' v h2 h3
theorem C8Z{α:Type}[Enc α]{a:α}(h:OpTo P B m H σ op ty (fun v m' H'=>H'=H∧m.le m'∧∃p,v= .pointer (some p)∧At m' p a))(hd:d<N)
 (k:∀m' p,m.le m'→At m' p a→WL M P N ops Q B m' H ((d,.pointer (some p))::σ) rest):WL M P N ops Q B m H σ (⟨some d,op,ty,pos,after,none⟩::rest):=
 O4 h hd fun v m' H' ⟨h1,h2,p,h3,h4⟩=>by subst h1;subst h3;exact k m' p h2 h4
theorem A1U{t:TypeId}{cs:List Value}(h:OpTo P B m H σ op ty (fun u m' H'=>m'=m∧∃b,u= .pointer (some ⟨b,0,none⟩)∧H'=blk b t cs::H))(hd:d<N)
 (k:∀b,WL M P N ops Q B m (blk b t cs::H) ((d,.pointer (some ⟨b,0,none⟩))::σ) rest):WL M P N ops Q B m H σ (⟨some d,op,ty,pos,after,none⟩::rest):=
 O4 h hd fun v m' H' ⟨h1,b,h2,h3⟩=>by subst h1;subst h2;subst h3;exact k b
theorem T6{t:TypeId}{cs:List Value}(h:OpTo P B m H σ op ty (fun u m' H'=>m'=m∧∃b,u= .slice (some ⟨b,0,none⟩) 1 1∧H'=blk b t cs::H))(hd:d<N)
 (k:∀b,WL M P N ops Q B m (blk b t cs::H) ((d,.slice (some ⟨b,0,none⟩) 1 1)::σ) rest):WL M P N ops Q B m H σ (⟨some d,op,ty,pos,after,none⟩::rest):=
 O4 h hd fun v m' H' ⟨h1,b,h2,h3⟩=>by subst h1;subst h2;subst h3;exact k b
theorem I2{H1:List Ent}(h:OpTo P B m H σ op ty (fun _ m' H'=>m'=m∧H'=H1))(k:WL M P N ops Q B m H1 σ rest):WL M P N ops Q B m H σ (⟨none,op,ty,pos,after,none⟩::rest):=
 B3g h fun v m' H' ⟨h1,h2⟩=>by subst h1;subst h2;exact k
theorem G2{F:Value→List Ent}(h:OpTo P B m H σ op ty (fun v m' H'=>m'=m∧H'=F v))(hd:d<N)(k:∀v,WL M P N ops Q B m (F v) ((d,v)::σ) rest):
 WL M P N ops Q B m H σ (⟨some d,op,ty,pos,after,none⟩::rest):=
 O4 h hd fun v m' H' ⟨h1,h2⟩=>by subst h1;subst h2;exact k v
theorem C2{R:Mem→List Ent→Value→Prop}{H1:List Ent}(h:OpTo P B m H σ op ty (fun v m' H'=>m.le m'∧∃Es,R m' Es v∧H'=Es++H1))(hd:d<N)
 (k:∀m' Es v,m.le m'→R m' Es v→WL M P N ops Q B m' (Es++H1) ((d,v)::σ) rest):WL M P N ops Q B m H σ (⟨some d,op,ty,pos,after,none⟩::rest):=
 O4 h hd fun v m' H' ⟨h1,Es,h2,h3⟩=>by subst h3;exact k m' Es v h1 h2
variable{i:Nat}{must:Bool}{π:Plan}{piv non:List Nat}{KK:Mem→List Ent→B5→Prop}{g:Option (Nat×Bool)}
theorem DW.x{V:Value}(ho:ops[i]?=some ⟨some d,op,ty,pos,after,g⟩)(hg:M6 ops σ ⟨some d,op,ty,pos,after,g⟩=some true)(h:OpX P B m H σ op ty V)(hd:d<N)
 (k:DW P B N ops piv non KK false π m H ((d,V)::σ)) (hnp:piv.contains i=false:=by rfl) (hfr:non.contains (i+100000)=true→∀m' H',m.le m'→OpX P B m' H' σ op ty V:=by exact fun h=>absurd h (by decide)):DW P B N ops piv non KK false (.cons i π) m H σ:=
 ⟨_,ho,fun e he=>by cases he;exact hd,.inr (.inl ⟨rfl,hg,hnp,V,h,hfr,k⟩)⟩
theorem DW.no(ho:ops[i]?=some ⟨some d,op,ty,pos,after,g⟩)(hg:M6 ops σ ⟨some d,op,ty,pos,after,g⟩=some false)(hd:d<N)
 (k:DW P B N ops piv non KK false π m H ((d,undef)::σ)):DW P B N ops piv non KK false (.cons i π) m H σ:=
 ⟨_,ho,fun e he=>by cases he;exact hd,.inl ⟨rfl,hg,k⟩⟩
theorem G9{α:Type}{V:α→Value}{F:α→Prop}(ho:ops[i]?=some ⟨some d,op,ty,pos,after,g⟩)(hg:M6 ops σ ⟨some d,op,ty,pos,after,g⟩=some true)(h:E P B m H σ op ty V F)(hd:d<N)
 (k:∀x,F x→DW P B N ops piv non KK false π m H ((d,V x)::σ)) (hnp:piv.contains i=false:=by rfl) (hfr:non.contains (i+100000)=false:=by rfl):DW P B N ops piv non KK false (.cons i π) m H σ:=by
 obtain⟨x,h1,h2⟩:=h;exact DW.x ho hg h1 hd (k x h2) hnp (fun h=>by rw[hfr]at h;cases h)
theorem DW.cond{p:Prop}[Decidable p](ho:ops[i]?=some ⟨some d,op,ty,pos,after,g⟩)(hg:M6 ops σ ⟨some d,op,ty,pos,after,g⟩=some true)(h:OpX P B m H σ op ty (.bool (decide p)))(hd:d<N)
 (hy:p→DW P B N ops piv non KK false π m H ((d,.bool true)::σ)) (hn:¬p→DW P B N ops piv non KK false π m H ((d,.bool false)::σ)) (hnp:piv.contains i=false:=by rfl) (hfr:non.contains (i+100000)=false:=by rfl):DW P B N ops piv non KK false (.cons i π) m H σ:=by
 refine DW.x ho hg h hd ?_ hnp (fun h=>by rw[hfr]at h;cases h)
 by_cases hp:p
 ·rw[decide_eq_true hp];exact hy hp
 ·rw[decide_eq_false hp];exact hn hp
theorem A0h{p:Prop}[Decidable p](ho:ops[i]?=some ⟨some d,op,ty,pos,after,g⟩)(hg:M6 ops σ ⟨some d,op,ty,pos,after,g⟩=some true)(h:OpX P B m H σ op ty (.bool (decide (¬p))))(hd:d<N)
 (hy:¬p→DW P B N ops piv non KK false π m H ((d,.bool true)::σ)) (hn:p→DW P B N ops piv non KK false π m H ((d,.bool false)::σ)) (hnp:piv.contains i=false:=by rfl) (hfr:non.contains (i+100000)=false:=by rfl):DW P B N ops piv non KK false (.cons i π) m H σ:=
 DW.cond ho hg h hd hy (fun h=>hn (Decidable.of_not_not h)) hnp hfr
theorem A2k{b:Bool}(ho:ops[i]?=some ⟨some d,op,ty,pos,after,g⟩)(hg:M6 ops σ ⟨some d,op,ty,pos,after,g⟩=some true)(h:OpX P B m H σ op ty (.bool b))(hd:d<N)
 (hy:b=true→DW P B N ops piv non KK false π m H ((d,.bool true)::σ)) (hn:b=false→DW P B N ops piv non KK false π m H ((d,.bool false)::σ)) (hnp:piv.contains i=false:=by rfl) (hfr:non.contains (i+100000)=false:=by rfl):DW P B N ops piv non KK false (.cons i π) m H σ:=by
 refine DW.x ho hg h hd ?_ hnp (fun h=>by rw[hfr]at h;cases h)
 cases b
 ·exact hn rfl
 ·exact hy rfl
theorem A1A{T:Value→Mem→List Ent→Prop}(ho:ops[i]?=some ⟨some d,op,ty,pos,after,g⟩)(hp:piv.contains i=true)(hg:M6 ops σ ⟨some d,op,ty,pos,after,g⟩=some true)(h:OpTo P B m H σ op ty T)(hd:d<N)
 (hm:non.contains i=false→∀v m' H',T v m' H'→m.le m'∧H.Sublist H') (hl:∀v m' H',T v m' H'→m.le m')
 (k:∀v m' H',T v m' H'→DW P B N ops piv non KK false π m' H' ((d,v)::σ)):DW P B N ops piv non KK must (.cons i π) m H σ:=
 ⟨_,ho,fun e he=>by cases he;exact hd,.inr (.inr ⟨hp,hg,T,h,hm,hl,k⟩)⟩
theorem A1V{R:Mem→Value→Prop}(ho:ops[i]?=some ⟨some d,op,ty,pos,after,g⟩)(hp:piv.contains i=true)(hg:M6 ops σ ⟨some d,op,ty,pos,after,g⟩=some true)
 (h:OpTo P B m H σ op ty (fun v m' H'=>H'=H∧m.le m'∧R m' v)) (hd:d<N)
 (k:∀m' v,m.le m'→R m' v→DW P B N ops piv non KK false π m' H ((d,v)::σ)):DW P B N ops piv non KK must (.cons i π) m H σ:=
 A1A ho hp hg h hd (fun _ v m' H' ⟨h1,h2,_⟩=>by subst h1;exact⟨h2,List.Sublist.refl _⟩) (fun _ _ _ h=>h.2.1) fun v m' H' ⟨h1,h2,h3⟩=>by subst h1;exact k m' v h2 h3
theorem C8W{α:Type}[Enc α]{a:α}(ho:ops[i]?=some ⟨some d,op,ty,pos,after,g⟩)(hp:piv.contains i=true)(hg:M6 ops σ ⟨some d,op,ty,pos,after,g⟩=some true)
 (h:OpTo P B m H σ op ty (fun v m' H'=>H'=H∧m.le m'∧∃p,v= .pointer (some p)∧At m' p a)) (hd:d<N)
 (k:∀m' p,m.le m'→At m' p a→DW P B N ops piv non KK false π m' H ((d,.pointer (some p))::σ)):DW P B N ops piv non KK must (.cons i π) m H σ:=
 A1A ho hp hg h hd (fun _ v m' H' ⟨h1,h2,_⟩=>by subst h1;exact⟨h2,List.Sublist.refl _⟩) (fun _ _ _ h=>h.2.1) fun v m' H' ⟨h1,h2,p,h3,h4⟩=>by subst h1;subst h3;exact k m' p h2 h4
theorem Q9{t:TypeId}{cs:List Value}(ho:ops[i]?=some ⟨some d,op,ty,pos,after,g⟩)(hp:piv.contains i=true)(hg:M6 ops σ ⟨some d,op,ty,pos,after,g⟩=some true)
 (h:OpTo P B m H σ op ty (fun u m' H'=>m'=m∧∃b,u= .pointer (some ⟨b,0,none⟩)∧H'=blk b t cs::H)) (hd:d<N)
 (k:∀b,DW P B N ops piv non KK false π m (blk b t cs::H) ((d,.pointer (some ⟨b,0,none⟩))::σ)):DW P B N ops piv non KK must (.cons i π) m H σ:=
 A1A ho hp hg h hd (fun _ v m' H' ⟨h1,b,_,h3⟩=>by subst h1;subst h3;exact⟨Mem.le_refl _,List.sublist_cons_self _ _⟩) (fun _ _ _ h=>by rw[h.1];exact Mem.le_refl _) fun v m' H' ⟨h1,b,h2,h3⟩=>by subst h1;subst h2;subst h3;exact k b
theorem P4{t:TypeId}{cs:List Value}(ho:ops[i]?=some ⟨some d,op,ty,pos,after,g⟩)(hp:piv.contains i=true)(hg:M6 ops σ ⟨some d,op,ty,pos,after,g⟩=some true)
 (h:OpTo P B m H σ op ty (fun u m' H'=>m'=m∧∃b,u= .slice (some ⟨b,0,none⟩) 1 1∧H'=blk b t cs::H)) (hd:d<N)
 (k:∀b,DW P B N ops piv non KK false π m (blk b t cs::H) ((d,.slice (some ⟨b,0,none⟩) 1 1)::σ)):DW P B N ops piv non KK must (.cons i π) m H σ:=
 A1A ho hp hg h hd (fun _ v m' H' ⟨h1,b,_,h3⟩=>by subst h1;subst h3;exact⟨Mem.le_refl _,List.sublist_cons_self _ _⟩) (fun _ _ _ h=>by rw[h.1];exact Mem.le_refl _) fun v m' H' ⟨h1,b,h2,h3⟩=>by subst h1;subst h2;subst h3;exact k b
theorem B3{H1:List Ent}(ho:ops[i]?=some ⟨none,op,ty,pos,after,g⟩)(hp:piv.contains i=true)(hn:non.contains i=true)(hg:M6 ops σ ⟨none,op,ty,pos,after,g⟩=some true)
 (h:OpTo P B m H σ op ty (fun _ m' H'=>m'=m∧H'=H1)) (k:DW P B N ops piv non KK false π m H1 σ):DW P B N ops piv non KK must (.cons i π) m H σ:=
 ⟨_,ho,(fun e he=>by cases he),.inr (.inr ⟨hp,hg,_,h,(fun h'=>by rw[hn]at h';cases h'),(fun _ _ _ h=>by rw[h.1];exact Mem.le_refl _),fun v m' H' ⟨h1,h2⟩=>by subst h1;subst h2;exact k⟩)⟩
theorem V0{F:Value→List Ent}(ho:ops[i]?=some ⟨some d,op,ty,pos,after,g⟩)(hp:piv.contains i=true)(hn:non.contains i=true)(hg:M6 ops σ ⟨some d,op,ty,pos,after,g⟩=some true)
 (h:OpTo P B m H σ op ty (fun v m' H'=>m'=m∧H'=F v)) (hd:d<N) (k:∀v,DW P B N ops piv non KK false π m (F v) ((d,v)::σ)):DW P B N ops piv non KK must (.cons i π) m H σ:=
 A1A ho hp hg h hd (fun h'=>by rw[hn]at h';cases h') (fun _ _ _ h=>by rw[h.1];exact Mem.le_refl _) fun v m' H' ⟨h1,h2⟩=>by subst h1;subst h2;exact k v
theorem A1T{R:Mem→List Ent→Value→Prop}{H1:List Ent}(ho:ops[i]?=some ⟨some d,op,ty,pos,after,g⟩)(hp:piv.contains i=true)(hn:non.contains i=true)(hg:M6 ops σ ⟨some d,op,ty,pos,after,g⟩=some true)
 (h:OpTo P B m H σ op ty (fun v m' H'=>m.le m'∧∃Es,R m' Es v∧H'=Es++H1)) (hd:d<N)
 (k:∀m' Es v,m.le m'→R m' Es v→DW P B N ops piv non KK false π m' (Es++H1) ((d,v)::σ)):DW P B N ops piv non KK must (.cons i π) m H σ:=
 A1A ho hp hg h hd (fun h'=>by rw[hn]at h';cases h') (fun _ _ _ h=>h.1) fun v m' H' ⟨h1,Es,h2,h3⟩=>by subst h3;exact k m' Es v h1 h2
theorem DW.fork{p q:Plan}(h0:p.heads≠[])(h1:DW P B N ops piv non KK true p m H σ)(h2:DW P B N ops piv non KK true q m H σ):DW P B N ops piv non KK must (.fork p q) m H σ:=⟨h0,h1,h2⟩
theorem WC.cut{x y:Code}{G:Type}(mG:G→Mem)(HG:G→List Ent)(σG:G→B5)(F:G→Prop)
 (h1:WC M P N (Exit.then (fun a w=>∃g' Ds',F g'∧St B (mG g') (HG g'++marks Ds') w∧Env N Ds' (σG g') a) Q) B m H σ x)
 (h2:∀g,F g→WC M P N Q B (mG g) (HG g) (σG g) y):WC M P N Q B m H σ (.seq x y):=
 fun Ds w hw a ha=>wpIn_seq (wpIn_mono (h1 Ds w hw a ha) fun e a w hq=>by
  cases e with
  |normal=>obtain⟨g',Ds',hF,hs,he⟩:=hq;exact h2 g' hF Ds' w hs a he
  |_=>exact hq)
theorem C2W{G:Type}{mG:G→Mem}{HG:G→List Ent}{σG:G→B5}{F:G→Prop}(g':G)(hm:m=mG g')(hH:(HG g').Sublist H)(hσ:Sub (σG g') σ)(hF:F g'):
 WK N B m H σ fun a w=>∃g' Ds',F g'∧St B (mG g') (HG g'++marks Ds') w∧Env N Ds' (σG g') a:=
 fun Ds _ hw _ ha=>⟨g',Ds,hF,hm▸hw.weaken (hH.append_right _),ha.weaken hσ⟩
theorem L9(h:WK N B m H σ K):WK N B m H σ (Exit.then K Q .normal):=h
theorem A0v{id:Nat}(h:WK N B m H σ (Q .normal)):WK N B m H σ (Exit.inBlock id Q .normal):=h
theorem C4l{j:Nat}(h:WK N B m H σ (Q .normal)):WK N B m H σ (Exit.inBlock j Q (.exit j)):=by
 intro Ds w hw a ha;simp only[Exit.inBlock,if_true];exact h Ds w hw a ha
theorem C0Z{j i:Nat}(hij:Nat.beq j i=false)(h:WK N B m H σ (Q (.exit j))):WK N B m H σ (Exit.inBlock i Q (.exit j)):=by
 intro Ds w hw a ha
 have hne:j≠i:=fun e=>by subst e;simp at hij
 simp only[Exit.inBlock,hne,if_false];exact h Ds w hw a ha
theorem WC.scope{c:Code}(h:WC none P N (Exit.noGoto Q) B m H σ c):WC none P N Q B m H σ (.scope c):=fun Ds w hw a ha=>wpIn_wide.2 (wp_scope_straight (wpIn_wide.1 (h Ds w hw a ha)))
theorem Cells.part{m:Mem}{p:Addr}{vs us:List Value}(h:Cells m p vs)(k:Nat)(hs:∀j v,us[j]?=some v→vs[k+j]?=some v):Cells m (p.add k) us:=by
 obtain⟨h0,cs,T',fz,h1,h2⟩:=h
 rw[B9 h0]
 exact⟨rfl,cs,T',fz,h1,fun j v hv=>by have:=h2 (k+j) v (hs j v hv);simpa[Nat.add_assoc]using this⟩
theorem Cells.cut{m:Mem}{p:Addr}{vs us:List Value}(h:Cells m p vs)(k:Nat)(e:(vs.drop k).take us.length=us:=by exact rfl):Cells m (p.add k) us:=
 h.part k fun j v hv=>by
  rw[←e,List.getElem?_take]at hv
  split at hv
  ·simpa using hv
  ·cases hv
theorem At.fl{α β:Type}[Flat α][Enc β]{m:Mem}{p:Addr}{x:α}{y:β}{us:List Value}(h: @At α (G1 α) m p x)(k:Nat)(hy:Enc.rd m us y)(e:((Flat.enc x).drop k).take us.length=us):At m (p.add k) y:=by
 obtain⟨vs,rfl,hc⟩:=h
 exact⟨us,hy,hc.cut k e⟩
def num:Nat→List Value→B5
 |_,[]=>[]
 |i,v::l=>(i,v)::num (i+1) l
theorem B5e:∀(l:List Value) (i t:Nat) (v:Value),lk (num i l) t=some v→i≤t∧l[t-i]?=some v
 | [],i,t,v,h=>by simp[num,lk]at h
 |u::l,i,t,v,h=>by
  by_cases e:i=t
  ·subst e;simp only[num]at h;rw[A0C]at h;simpa using h
  ·simp only[num]at h
   rw[A1s _ _ e]at h
   obtain⟨h1,h2⟩:=B5e l (i+1) t v h
   refine⟨by omega,?_⟩
   rw[show t-i=(t-(i+1))+1 by omega];simpa using h2
theorem Calls.start{f:FuncId}{fn:Func}{c:Code}{args:List Value}{w:World}{R:Ending→World→Prop}{H0:List Ent}
 (hf:P.funcs[f]?=some fn) (hb:fn.body=some c) (hN:fn.ntmps=N) (hs:St B m H0 w) (hsz:Nat.ble args.length N=true)
 (h:WC none P N (L8 P fn R) B m H0 (num 0 args) c):Calls P f args.toArray w R:=
 Calls.enter hf hb hN hs (fun t v hv=>by simpa using(B5e args 0 t v hv).2) (by simpa using Nat.le_of_ble_eq_true hsz) h
theorem Exact.start{f:FuncId}{fn:Func}{c:Code}{args:List Value}{v:Value}(hf:P.funcs[f]?=some fn)(hb:fn.body=some c)(hN:fn.ntmps=N)(hsz:Nat.ble args.length N=true)
 (h:∀w,WC none P N (L8 P fn (Ret ⟨w,[],m⟩ fun _ _ v'=>v'=v)) ⟨w,[],m⟩ m [] (num 0 args) c):Exact P f args.toArray m v:=
 fun w hw=>Calls.start hf hb hN (St.start w m hw) hsz (h w)
theorem Pure.start{f:FuncId}{fn:Func}{c:Code}{args:List Value}{R:Mem→Value→Prop}(hf:P.funcs[f]?=some fn)(hb:fn.body=some c)(hN:fn.ntmps=N)(hsz:Nat.ble args.length N=true)
 (h:∀w,WC none P N (L8 P fn (Ret ⟨w,[],m⟩ fun m' _ v'=>R m' v')) ⟨w,[],m⟩ m [] (num 0 args) c):Pure P f args.toArray m R:=
 fun w hw=>Calls.start hf hb hN (St.start w m hw) hsz (h w)
theorem Mut.start{f:FuncId}{fn:Func}{c:Code}{args:List Value}{Es:List Ent}{R:Mem→List Ent→Value→Prop}(hf:P.funcs[f]?=some fn)(hb:fn.body=some c)(hN:fn.ntmps=N)(hsz:Nat.ble args.length N=true)
 (h:∀w,WC none P N (L8 P fn (Ret ⟨w,B7 Es,m⟩ R)) ⟨w,B7 Es,m⟩ m Es (num 0 args) c):Mut P f args.toArray m Es R:=
 fun w hw=>Calls.start hf hb hN hw hsz (h w)
theorem Ret.exact{w:World}{m m':Mem}{H':List Ent}{w':World}{v u:Value}(hs:St ⟨w,[],m⟩ m' H' w')(hv:v=u):Ret ⟨w,[],m⟩ (fun _ _ v'=>v'=u) (.returned v) w':=
 ⟨v,m',H',rfl,hs,hv⟩
theorem C4J{w:World}{m m':Mem}{H':List Ent}{w':World}{v:Value}{R:Mem→Value→Prop}(hs:St ⟨w,[],m⟩ m' H' w')(hv:R m' v):Ret ⟨w,[],m⟩ (fun m' _ v'=>R m' v') (.returned v) w':=
 ⟨v,m',H',rfl,hs,hv⟩
theorem B8{B:Base}{m':Mem}{H':List Ent}{w':World}{v:Value}{R:Mem→List Ent→Value→Prop}(hs:St B m' H' w')(hv:R m' H' v):Ret B R (.returned v) w':=
 ⟨v,m',H',rfl,hs,hv⟩
end
end Go.Kx
