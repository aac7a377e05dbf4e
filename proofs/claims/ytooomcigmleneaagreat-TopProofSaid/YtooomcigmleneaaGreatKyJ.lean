import Derived.Test.YtooomcigmleneaaGreatKyG
set_option linter.all false
namespace Go.Kx
open Go
section
section
variable{P:Program}{B:Base}{m:Mem}{H:List Ent}{σ:B6}{ty:TypeId}
theorem Pg{x:Operand}{s:TypeId}{i n:Nat}{fs:Array Field}{f:Field}{cs vs:List Value}(hu:∀w,(underlying s).run P w= .ok (.struct fs) w)(hf:fs[i]?=some f)
 (hs:∀w,(sizeOf f.type).run P w= .ok n w) (hx:ev σ x=some (.agg cs.toArray)) (ha:∀w,(isAgg f.type).run P w= .ok true w) (hv:(cs.drop f.offset).take n=vs):OpX P B m H σ (.field s x i) ty (.agg vs.toArray):=
 .ofRun trivial (L6 rfl hx) fun w _ o a _=>by
  subst hv
  simp[execOp,a,A6 hx,Instr.field,hu,hf,part,ha,hs,asAgg,List.extract_toArray,List.extract_eq_take_drop]
theorem A6S{α:Type}[Enc α]{x y:Operand}{t e:TypeId}{k i off sz:Nat}{v u:Value}{xs us:List Value}{L:List α}{b a:α}(hz:∀w,(sizeOf t).run P w= .ok sz w)
 (hx:ev σ x=some (.pointer (some (rp v (i*Enc.sz α+off))))) (hy:ev σ y=some u) (hc:u.cells=us.toArray) (hl:us.length=sz) (h0:0<us.length) (hH:A7 H k=some (row v e (Enc.sz α) L.length xs)) (hi:L[i]?=some b)
 (hL:RdL m xs L) (ho:off+us.length≤Enc.sz α) (ha:∀vs,Enc.rd m vs b→Enc.rd m (vs.take off++us++vs.drop (off+us.length)) a) (h1:∀u∈us,u.oneCell'=true):
 OpTo P B m H σ (.store t x y) ty (fun _ m' H'=>m'=m∧∃ys,RdL m ys (L.set i a)∧H'=H4 H k (row v e (Enc.sz α) (L.set i a).length ys)):=
 .ofRun trivial (D1 rfl hx hy) fun w z o g _=>by
  have c:i<L.length:=(Sq.1 hi).1
  have l:(i+1)*Enc.sz α≤L.length*Enc.sz α:=Sw _ c
  rw[Sb,SJ]at l
  have A:=hL.1
  obtain⟨vs,q,J⟩:=hL.2 i b hi
  have C:=Enc.len q
  have n:(xs.drop (i*Enc.sz α)).take (Enc.sz α)=vs:=by
   apply SG
   intro j
   rw[SI]
   by_cases s:j<Enc.sz α
   ·rw[D' s,Tl]
    have d:j<vs.length:=by omega
    rw[J j vs[j] (Sy d),Sy d]
   ·rw[A' s,Sm];omega
  obtain⟨w',K,r⟩:=Cd (P:=P) (off:=i*Enc.sz α+off) z hH h0 (by omega) h1
  have f:=hL.set (ha vs q) c
  have p:(vs.take off++us++vs.drop (off+us.length)).length=Enc.sz α:=Enc.len (ha vs q)
  refine⟨undef,w',.inr ⟨by simp[execOp,g,A6 hx,A6 hy,Instr.storeAt,Instr.sureAddr,storeVar,hz,hc,hl,K],rfl⟩,m,_,⟨rfl,_,f,rfl⟩,?_⟩
  rw[I']
  have D:xs.take (i*Enc.sz α)++(vs.take off++us++vs.drop (off+us.length))++xs.drop (i*Enc.sz α+(vs.take off++us++vs.drop (off+us.length)).length)=xs.take (i*Enc.sz α+off)++us++xs.drop (i*Enc.sz α+off+us.length):=by
   rw[p,←n]
   have E:xs.take (i*Enc.sz α+off)=xs.take (i*Enc.sz α)++((xs.drop (i*Enc.sz α)).take (Enc.sz α)).take off:=by
    rw[List.take_take,SQ (by omega),List.take_add]
   have F:xs.drop (i*Enc.sz α+off+us.length)=((xs.drop (i*Enc.sz α)).take (Enc.sz α)).drop (off+us.length)++xs.drop (i*Enc.sz α+Enc.sz α):=by
    have G:xs.drop (i*Enc.sz α)=(xs.drop (i*Enc.sz α)).take (Enc.sz α)++xs.drop (i*Enc.sz α+Enc.sz α):=by
     rw[←Uh,Uj]
    have I:xs.drop (i*Enc.sz α+off+us.length)=(xs.drop (i*Enc.sz α)).drop (off+us.length):=by rw[Uh];congr 1;omega
    rw[I]
    conv=>lhs;rw[G]
    rw[List.drop_append_of_le_length (by rw[Sr,SE];omega)]
   rw[E,F]
   simp[Se]
  rw[D];exact r
theorem HL{x y:Operand}{t kt et:TypeId}{b:Nat}{α:Type}[Flat α][DecidableEq α]{V:Value→Prop}{k:α}{z:Value}(ht:∀w,(underlying t).run P w= .ok (.map kt et) w)(hK:KeyT P kt α)(hz:∀w,(zeroValue et).run P w= .ok z w)
 (hx:ev σ x=some (.map (some b))) (hy:ev σ y=some (.agg (Flat.enc k).toArray)) (hM:MapM m b α V) (hV:V z):
 E P B m H σ (.lookup t x y true) ty (fun p:Value×Bool=>.tuple #[p.1,.bool p.2]) (fun p=>V p.1):=by
 obtain⟨es,clock,d,g,l⟩:=hM
 obtain⟨r,f,n⟩:=Y7 hK k es.toList g
 cases r with
 |none=>exact⟨(z,false),.ofRun trivial (D1 rfl hx hy) fun w a o c _=>by simp[execOp,c,A6 hx,A6 hy,Instr.lookup,ht,I4 (a.sub _ _ d),hK.chk,f,hz],hV⟩
 |some p=>
  obtain⟨i,v⟩:=p
  obtain⟨_,e,q,s,_⟩:=n i v rfl
  exact⟨(v,true),.ofRun trivial (D1 rfl hx hy) fun w a o c _=>by simp[execOp,c,A6 hx,A6 hy,Instr.lookup,ht,I4 (a.sub _ _ d),hK.chk,f],s▸l e (Ta q)⟩
theorem Ry{α:Type}[Enc α][Inhabited α]{x:Operand}{t e:TypeId}{k i n:Nat}{v:Value}{xs:List Value}{L:List α}(ha:∀w,(isAgg t).run P w= .ok true w)(hz:∀w,(sizeOf t).run P w= .ok n w)(hn:Enc.sz α=n)
 (hx:ev σ x=some (.pointer (some (rp v (i*n))))) (hH:A7 H k=some (row v e n L.length xs)) (hL:RdL m xs L) (hi:i<L.length):
 E P B m H σ (.load t x) ty (fun vs:List Value=>.agg vs.toArray) (fun vs=>Enc.rd m vs (gt L i)):=by
 subst hn
 obtain⟨vs,a,b⟩:=hL.2 i _ (S9 hi)
 exact⟨vs,Fl ha hz hx hH (Enc.len a) b,a⟩
end
section
variable{N:Nat}{B:Base}{m:Mem}{H:List Ent}{σ:B6}{K:Act→World→Prop}
theorem A0P{α:Type}[Enc α]{b:Nat}{T':TypeId}{cs:List Value}{x:α}(k:Nat)(A C:List Ent)(hX:B.X=B8 C)(hH:H=A++C)(hf:A7 A k=some (blk b T' cs))(hx:Enc.rd m cs x)
 (kk:∀m',m.le m'→At m' ⟨b,0,none⟩ x→WK N B m' (X3 A k++C) σ K):WK N B m H σ K:=
 A0S k A C hX hH hf fun m' a c=>kk m' a ⟨cs,Enc.mono a hx,c⟩
theorem KD{α:Type}[Flat α][Enc α][FlatEnc α]{v:Value}{e:TypeId}{L:List α}(k:Nat)(A C:List Ent)(hX:B.X=B8 C)(hH:H=A++C)(hf:A7 A k=some (A5 v e L))(hl:L.length≤C7)
 (kk:∀m',m.le m'→Sl m' v L→WK N B m' (X3 A k++C) σ K):WK N B m H σ K:=by
 intro Ds w z a D
 subst hH
 have b:St B m (A++(C++marks Ds)) w:=by simpa using z
 have r:(row v e (Flat.n α) L.length (flat L)).holds w:=C3 b (S8 hf)
 obtain⟨o,p⟩:=b.freezeX (fun c q=>by
  have:=b.apart hf c q
  rw[hX];intro f;exact this (by rw[E5];exact Sk _ f)) (S8 hf)
 rw[Ly hf]at o
 have s:=RdL.flat m L
 refine kk _ p ?_ Ds w (by simpa using o) a D
 rcases r.2 with⟨rfl,h0⟩|⟨g,cap,cur,rfl,_,hg,hnc,hcm,hcs,htake⟩
 ·have:L=[]:=Tj h0
  subst this;exact .nil
 ·refine .some _ _ _ (fun _=>rfl) hnc hl hcm ?_
  intro i x l
  obtain⟨vs,t,y⟩:=s.2 i x l
  refine⟨vs,Enc.mono p t,rfl,cur,e,(0,0),by simp[A5,row,Value.ownBlock,hg],?_⟩
  intro j u E
  have d:=y j u E
  rw[←htake,SI]at d
  split at d
  ·simpa[SX,FlatEnc.sz]using d
  ·cases d
end
section
variable{N:Nat}{B:Base}{m:Mem}{H:List Ent}{σ:B6}{K:Act→World→Prop}
theorem RU{α:Type}[Enc α]{Q:α→Prop}{n k:Nat}(hn:0<n)(hs:Enc.sz α=n){v:Value}{e:TypeId}{xs:List Value}{L:List α}(hH:A7 H k=some (row v e n L.length xs))(hx:RdL m xs L)(hq:∀a∈L,Q a)
 (kk:∀R:List (BigV n),R.length=L.length→GoodL Q m R→WK N B m (H4 H k (@A5 _ (BigV.flat n hn) v e R)) σ K):WK N B m H σ K:=by
 obtain⟨R,d,f,g⟩:=B1p hn hs hx hq
 have b:=kk R d g
 unfold A5 at b
 rw[f,d]at b
 obtain⟨A,C,rfl,c,_⟩:=N0 hH
 rwa [c]at b
theorem MB{α:Type}[Enc α]{Q:α→Prop}{n k:Nat}(hn:0<n)(hs:Enc.sz α=n){v:Value}{e:TypeId}{R:List (BigV n)}(hH:A7 H k=some (@A5 _ (BigV.flat n hn) v e R))(hg:GoodL Q m R)
 (kk:∀(L:List α) (xs:List Value),L.length=R.length→RdL m xs L→(∀a∈L,Q a)→WK N B m (H4 H k (row v e n L.length xs)) σ K):WK N B m H σ K:=by
 obtain⟨L,d,f,g⟩:=hg.rdl hn hs
 have b:=kk L _ d f g
 rw[d]at b
 obtain⟨A,C,rfl,c,_⟩:=N0 hH
 rw[c]at b
 exact b
end
open Go
section
variable{P:Program}{B:Base}{m:Mem}{H:List Ent}{σ:B6}{ty:TypeId}
theorem CP{f:FuncId}{x:Operand}{bd cap:Array Value}{l:List Operand}{ts:Array TypeId}{vs:List Value}{A Hs:List Ent}{R:Mem→List Ent→Value→Prop}(hf:Enters P f)(hx:ev σ x=some (.func (.func f) bd cap))
 (hl:AS σ l=some vs) (hH:H=A++Hs) (hc:Mut P f (bd++vs.toArray++cap) m Hs R):OpTo P B m H σ (.call (Call.mk (.value x) l.toArray ts)) ty (fun v m' H'=>m.le m'∧∃Es,R m' Es v∧H'=A++Es):=
 ⟨trivial,BB hx hl,fun M B w d o a next Q g p kk=>Q6 M<| by
  subst hH
  rw[IT hf hx hl w o g]
  have b:=d.perm (H':=Hs++A) Tv
  refine(hc w b.part).mono fun e' w' k=>?_
  obtain⟨u,m',H',rfl,c,n⟩:=k
  exact kk u m' _ w' ⟨c.le,H',n,rfl⟩ ((b.handed c).perm Tv)⟩
end
theorem A9s{N:Nat}{B:Base}{m:Mem}{H H':List Ent}{σ:B6}{K:Act→World→Prop}(h:H'=H)(k:WK N B m H' σ K):WK N B m H σ K:=h▸k
open Go
theorem OpTo.wk{P:Program}{B:Base}{m:Mem}{H H':List Ent}{σ:B6}{op:Op}{ty:TypeId}{T:Value→Mem→List Ent→Prop}(h:WkL H' H)(k:OpTo P B m H' σ op ty T):OpTo P B m H σ op ty T:=
 ⟨k.sel,k.defd,fun M B' w a=>k.run M B' w (a.wk h)⟩
theorem mapS.up{b:Nat}{α:Type}[Flat α]{V V':Value→Prop}{s:Int}{H H':List Ent}(hV:∀v,V v→V' v)(h:WkL H' H):WkL (mapS b α V' s::H') (mapS b α V s::H):=
 .cons rfl (fun _ ⟨es,c,a,d,f,g⟩=>⟨es,c,a,d,fun e k=>hV _ (f e k),g⟩) h
end
class TF(P:Program)(s:TypeId)(i:Nat)(off:outParam Nat):Prop where
 h:∃fs f n,(∀w,(underlying s).run P w= .ok (.struct fs) w)∧fs[i]?=some f∧(∀w,(sizeOf f.type).run P w= .ok (n+1) w)∧f.offset=off
class TU(P:Program)(t:TypeId)(d:outParam TypeDesc):Prop where
 h:∀w,(underlying t).run P w= .ok d w
class TS(P:Program)(t:TypeId)(n:outParam Nat):Prop where
 h:∀w,(sizeOf t).run P w= .ok n w
class TA(P:Program)(t:TypeId)(b:outParam Bool):Prop where
 h:∀w,(isAgg t).run P w= .ok b w
theorem B7T{P:Program}{s:TypeId}{i n:Nat}{fs:Array Field}{f:Field}(hu:∀w,(underlying s).run P w= .ok (.struct fs) w)(hf:fs[i]?=some f)(hs:∀w,(sizeOf f.type).run P w= .ok (n+1) w):TF P s i f.offset:=⟨fs,f,n,hu,hf,hs,rfl⟩
section
variable{P:Program}{B:Base}{m:Mem}{H:List Ent}{σ:B6}{ty:TypeId}
theorem A.f{x:Operand}{s:TypeId}{i off:Nat}{p:Addr}(hx:ev σ x=some (.pointer (some p)))[c:TF P s i off]:OpX P B m H σ (.fieldAddr s x i) ty (.pointer (some (p.add off))):=by
 obtain⟨fs,f,n,a,b,d,rfl⟩:=c.h
 exact X.field a b d hx
theorem A.b(k:Nat){x:Operand}{t:TypeId}{b off:Nat}{T:TypeId}{cs:List Value}{v:Value}(hx:ev σ x=some (.pointer (some ⟨b,off,none⟩)))(hH:A7 H k=some (blk b T cs))(hc:cs[off]?=some v)[c:TA P t false]:OpX P B m H σ (.load t x) ty v:=BZ c.h hx hH hc
theorem L9(k:Nat){x:Operand}{t:TypeId}{b n:Nat}{T:TypeId}{cs:List Value}(hx:ev σ x=some (.pointer (some ⟨b,0,none⟩)))(hH:A7 H k=some (blk b T cs))[ca:TA P t true][cz:TS P t n](hn:cs.length=n):OpX P B m H σ (.load t x) ty (.agg cs.toArray):=Ma ca.h cz.h hx hH hn
theorem A.l{α:Type}[Enc α]{x:Operand}{t e:TypeId}{v:Value}{L:List α}(hx:ev σ x=some v)(hs:Sl m v L)[c:TU P t (.slice e)]:OpX P B m H σ (.call (Call.mk (.builtin .len) #[x] #[t])) ty (.int .i64 L.length):=X.len c.h hx hs
theorem A.i{x:Operand}{t:TypeId}{p:Addr}{n:Int}(hx:ev σ x=some (.pointer (some p)))(hp:At m p n)[c:TA P t false]:OpX P B m H σ (.load t x) ty (.int .i64 n):=Ew c.h hx hp
end
structure Wrap(p:Prop):Prop where
 h:p
class FE(H:List Ent)(b:Nat)(k:outParam Nat)(T:outParam TypeId)(cs:outParam (List Value)):Prop where
 h:A7 H k=some (blk b T cs)
instance(priority:=high) FE.z{H:List Ent}{b:Nat}{T:TypeId}{cs:List Value}:FE (blk b T cs::H) b 0 T cs:=⟨rfl⟩
instance FE.s{H:List Ent}{e:Ent}{b k:Nat}{T:TypeId}{cs:List Value}[c:FE H b k T cs]:FE (e::H) b (k+1) T cs:=⟨c.h⟩
class RM(H:List Ent)(i:Nat)(e:outParam Ent)(R:outParam (List Ent)):Prop where
 h:(e::R).Perm H
instance(priority:=high) RM.z{H:List Ent}{e:Ent}:RM (e::H) 0 e H:=⟨.refl _⟩
instance RM.s{H R:List Ent}{a e:Ent}{i:Nat}[c:RM H i e R]:RM (a::H) (i+1) e (a::R):=⟨(List.Perm.swap a e R).trans (c.h.cons a)⟩
class PI(H:List Ent)(is:List Nat)(H':outParam (List Ent)):Prop where
 h:H'.Perm H
instance PI.z{H:List Ent}:PI H [] H:=⟨.refl _⟩
instance PI.s{H R S:List Ent}{e:Ent}{i:Nat}{is:List Nat}[c:RM H i e R][d:PI R is S]:PI H (i::is) (e::S):=⟨(d.h.cons e).trans c.h⟩
class SP(H:List Ent)(is:List Nat)(Hs:outParam (List Ent))(A:outParam (List Ent)):Prop where
 h:(Hs++A).Perm H
instance SP.z{H:List Ent}:SP H [] [] H:=⟨.refl _⟩
instance SP.s{H R Hs A:List Ent}{e:Ent}{i:Nat}{is:List Nat}[c:RM H i e R][d:SP R is Hs A]:SP H (i::is) (e::Hs) A:=⟨(d.h.cons e).trans c.h⟩
class UPc(H:List Ent)(k:Nat)(e:Ent)(H':outParam (List Ent)):Prop where
 h:H4 H k e=H'
instance(priority:=high) UPc.z{H:List Ent}{a e:Ent}:UPc (a::H) 0 e (e::H):=⟨rfl⟩
instance UPc.s{H H':List Ent}{k:Nat}{a e:Ent}[c:UPc H k e H']:UPc (a::H) (k+1) e (a::H'):=⟨by show a::H4 H k e=_;rw[c.h]⟩
class DLc(H:List Ent)(k:Nat)(H':outParam (List Ent)):Prop where
 h:X3 H k=H'
instance(priority:=high) DLc.z{H:List Ent}{a:Ent}:DLc (a::H) 0 H:=⟨rfl⟩
instance DLc.s{H H':List Ent}{k:Nat}{a:Ent}[c:DLc H k H']:DLc (a::H) (k+1) (a::H'):=⟨by show a::X3 H k=_;rw[c.h]⟩
class APc(L H:List Ent)(H':outParam (List Ent)):Prop where
 h:L++H=H'
instance APc.z{H:List Ent}:APc [] H H:=⟨rfl⟩
instance APc.s{L H H':List Ent}{a:Ent}[c:APc L H H']:APc (a::L) H (a::H'):=⟨by show a::(L++H)=_;rw[c.h]⟩
class NH(H:List Ent)(H':outParam (List Ent)):Prop where
 h:H=H'
instance(priority:=low) NH.x{H:List Ent}:NH H H:=⟨rfl⟩
instance NH.n:NH [] []:=⟨rfl⟩
instance NH.c{H H':List Ent}{e:Ent}[c:NH H H']:NH (e::H) (e::H'):=⟨by rw[c.h]⟩
instance NH.u{H H0 H':List Ent}{k:Nat}{e:Ent}[c:NH H H0][d:UPc H0 k e H']:NH (H4 H k e) H':=⟨by rw[c.h,d.h]⟩
instance NH.d{H H0 H':List Ent}{k:Nat}[c:NH H H0][d:DLc H0 k H']:NH (X3 H k) H':=⟨by rw[c.h,d.h]⟩
instance NH.a{L L0 H H0 H':List Ent}[c:NH L L0][c':NH H H0][d:APc L0 H0 H']:NH (L++H) H':=⟨by rw[c.h,c'.h,d.h]⟩
theorem WK.p{N:Nat}{B:Base}{m:Mem}{H H0 H':List Ent}{σ:B6}{K:Act→World→Prop}(is:List Nat)[n:NH H H0][c:PI H0 is H'](k:WK N B m H' σ K):WK N B m H σ K:=WK.perm H' (n.h▸c.h) k
theorem K5{P:Program}{B:Base}{m:Mem}{H H0:List Ent}{σ:B6}{ty:TypeId}{f:FuncId}{l:List Operand}{ts:Array TypeId}{vs:List Value}{A Hs:List Ent}{R:Mem→List Ent→Value→Prop}(is:List Nat)[n:NH H H0][c:SP H0 is Hs A](hf:Enters P f)(hl:AS σ l=some vs)
 (hc:Mut P f vs.toArray m Hs R):OpTo P B m H σ (.call (Call.mk (.value (.func f)) l.toArray ts)) ty (fun v m' H'=>m.le m'∧∃Es,R m' Es v∧H'=Es++A):=C8 hf hl (n.h▸c.h) hc
section
variable{M:Option Nat}{P:Program}{N:Nat}{ops:Array Oper}{Q:Exit→Act→World→Prop}{B:Base}{m:Mem}{H:List Ent}{σ:B6}{rest:List Oper}{d i:Nat}{op:Op}{ty:TypeId}{pos:String}{after:Array Edge}{g:Option (Nat×Bool)}{piv non:List Nat}{KK:Mem→List Ent→B6→Prop}{π:Plan}
theorem A9{x y:Operand}{t e e':TypeId}{v:Value}{sz n:Nat}{xs:List Value}{i:Int}(k j:Nat)[cu:TU P t (.slice e)][cz:TS P e sz](hx:ev σ x=some v:=by exact rfl)(hy:ev σ y=some (.int .i64 i):=by exact rfl)(hH:A7 H k=some (row v e' sz n xs):=by exact rfl)
 (hj:i=j:=by omega) (h1:i<n:=by first|omega|(simp;omega)|simp):OpX P B m H σ (.indexAddr t x y) ty (.pointer (some (rp v (j*sz)))):=OZ j cu.h cz.h hx hy hH hj h1
theorem A.fs{α:Type}[Flat α][Inhabited α]{x:Operand}{t e:TypeId}{n:Nat}{v:Value}{L:List α}(k i off:Nat)(us:List Value)[ca:TA P t true][cz:TS P t n]
 (hx:ev σ x=some (.pointer (some (rp v (i*Flat.n α+off))))) (hH:A7 H k=some (A5 v e L)) (hn:us.length=n) (hu:((Flat.enc (gt L i)).drop off).take n=us) (hi:i<L.length:=by first|omega|(simp;omega)|simp):OpX P B m H σ (.load t x) ty (.agg us.toArray):=RQ ca.h cz.h hx hH hi hn hu
theorem F4{α:Type}[Flat α][Inhabited α]{x:Operand}{t e:TypeId}{n:Nat}{v:Value}{L:List α}(k i:Nat)[ca:TA P t true][cz:TS P t n]
 (hn:Flat.n α=n) (hx:ev σ x=some (.pointer (some (rp v (i*n))))) (hH:A7 H k=some (A5 v e L)) (hi:i<L.length:=by first|omega|(simp;omega)|simp):OpX P B m H σ (.load t x) ty (.agg (Flat.enc (gt L i)).toArray):=A7l ca.h cz.h hn hx hH hi
theorem DW.u{V:Value}(h:OpX P B m H σ op ty V)(k:DW P B N ops piv non KK false π m H ((d,V)::σ))(ho:ops[i]?=some ⟨some d,op,ty,pos,after,g⟩:=by exact rfl)(hg:N6 ops σ ⟨some d,op,ty,pos,after,g⟩=some true:=by exact rfl)
 (hd:d<N:=by decide) (hnp:piv.contains i=false:=by rfl) (hfr:non.contains (i+100000)=true→∀m' H',m.le m'→OpX P B m' H' σ op ty V:=by exact fun h=>absurd h (by decide)):DW P B N ops piv non KK false (.cons i π) m H σ:=DW.x ho hg h hd k hnp hfr
end
class TD(H:List Ent)(n:Nat)(A C:outParam (List Ent)):Prop where
 h:H=A++C
instance(priority:=high) TD.z{H:List Ent}:TD H 0 [] H:=⟨rfl⟩
instance TD.s{H A C:List Ent}{e:Ent}{n:Nat}[c:TD H n A C]:TD (e::H) (n+1) (e::A) C:=⟨by rw[c.h];rfl⟩
theorem slo{α:Type}{e:Enc α}{m:Mem}{v:Value}{L:List α}(h: @Sl α e m v L):v.oneCell'=true:= @Sl.one _ _ _ _ _ h
theorem ones{vs:List Value}(h:∀v∈vs,v.oneCell'=true:=by(repeat' (first|exact C6|refine A4 (by first|rfl|assumption|(apply slo;assumption)) ?_))):∀v∈vs,v.oneCell'=true:=h
theorem okt{bs:List Int}(h:FS bs:=by first|exact trivial|exact⟨by omega,trivial⟩|exact⟨by omega,by omega,trivial⟩|(repeat' (first|exact trivial|refine⟨by omega,?_⟩))):FS bs:=h
theorem CS{A C:List Ent}(h:A.Sublist C:=by first|exact .refl _|(repeat' (first|exact .slnil|refine .cons_cons _ ?_|refine .cons _ ?_|exact .refl _))):A.Sublist C:=h
theorem CT{σ τ:B6}(h:Sub σ τ:=by(repeat' (first|exact Sub.nil|refine Sub.cons rfl ?_))):Sub σ τ:=h
theorem O{α:Sort _}{a:α}:a=a:=rfl
section
variable{M:Option Nat}{P:Program}{N:Nat}{ops:Array Oper}{Q:Exit→Act→World→Prop}{B:Base}{m:Mem}{H:List Ent}{σ:B6}{rest:List Oper}{d i:Nat}{op:Op}{ty:TypeId}{pos:String}{after:Array Edge}{g:Option (Nat×Bool)}{piv non:List Nat}{KK:Mem→List Ent→B6→Prop}{π:Plan}
theorem y'{V:Value}(h:OpX P B m H σ op ty V)(k:WL M P N ops Q B m H ((d,V)::σ) rest)(hd:d<N:=by decide):WL M P N ops Q B m H σ (⟨some d,op,ty,pos,after,none⟩::rest):=WL.x h hd k
theorem u'(n:Nat){σ':B6}{l l':List Oper}{bs:List Int}(h:NX N ops n σ l=some (σ',l',bs))(k:WL M P N ops Q B m H σ' l')
 (hb:FS bs:=by exact okt):WL M P N ops Q B m H σ l:=B5X n h k hb
theorem t'{s:TypeId}{i off:Nat}[c:TF P s i off]:TF P s i off:=c
theorem f'{x:Operand}{s:TypeId}{i off:Nat}{p:Addr}(hx:ev σ x=some (.pointer (some p)))(c:TF P s i off)(k:WL M P N ops Q B m H ((d,.pointer (some (p.add off)))::σ) rest)(hd:d<N:=by decide):WL M P N ops Q B m H σ (⟨some d,.fieldAddr s x i,ty,pos,after,none⟩::rest):=WL.x (A.f hx) hd k
theorem b'(j:Nat){x:Operand}{t:TypeId}{b off:Nat}{T:TypeId}{cs:List Value}{v:Value}(hx:ev σ x=some (.pointer (some ⟨b,off,none⟩)))(hH:A7 H j=some (blk b T cs))(hc:cs[off]?=some v)[c:TA P t false](k:WL M P N ops Q B m H ((d,v)::σ) rest)(hd:d<N:=by decide):
 WL M P N ops Q B m H σ (⟨some d,.load t x,ty,pos,after,none⟩::rest):=WL.x (BZ c.h hx hH hc) hd k
theorem a'(j:Nat){x:Operand}{t:TypeId}{b n:Nat}{T:TypeId}{cs:List Value}[ca:TA P t true][cz:TS P t n](hx:ev σ x=some (.pointer (some ⟨b,0,none⟩)))(hH:A7 H j=some (blk b T cs))(k:WL M P N ops Q B m H ((d,.agg cs.toArray)::σ) rest)(hn:cs.length=n:=by exact rfl)(hd:d<N:=by decide):
 WL M P N ops Q B m H σ (⟨some d,.load t x,ty,pos,after,none⟩::rest):=WL.x (Ma ca.h cz.h hx hH hn) hd k
theorem l'{α:Type}[Enc α]{x:Operand}{t e:TypeId}{v:Value}{L:List α}(hs:Sl m v L)(hx:ev σ x=some v)[c:TU P t (.slice e)](k:WL M P N ops Q B m H ((d,.int .i64 L.length)::σ) rest)(hd:d<N:=by decide):
 WL M P N ops Q B m H σ (⟨some d,.call (Call.mk (.builtin .len) #[x] #[t]),ty,pos,after,none⟩::rest):=WL.x (X.len c.h hx hs) hd k
theorem i'{x:Operand}{t:TypeId}{p:Addr}{n:Int}(hp:At m p n)(hx:ev σ x=some (.pointer (some p)))[c:TA P t false](k:WL M P N ops Q B m H ((d,.int .i64 n)::σ) rest)(hd:d<N:=by decide):
 WL M P N ops Q B m H σ (⟨some d,.load t x,ty,pos,after,none⟩::rest):=WL.x (Ew c.h hx hp) hd k
theorem s'{α:Type}[Enc α]{x:Operand}{t:TypeId}{p:Addr}{L:List α}(hp:At m p L)(hx:ev σ x=some (.pointer (some p)))[ca:TA P t false](k:∀v,Sl m v L→WL M P N ops Q B m H ((d,v)::σ) rest)(hd:d<N:=by decide):WL M P N ops Q B m H σ (⟨some d,.load t x,ty,pos,after,none⟩::rest):=
 Q9 (RI ca.h hx hp) hd k
theorem g'{α:Type}[Enc α]{x:Operand}{t:TypeId}{p:Addr}{a:α}{n:Nat}(hp:At m p a)[ca:TA P t true][cz:TS P t n](hx:ev σ x=some (.pointer (some p)))(k:∀c:List Value,Enc.rd m c a→WL M P N ops Q B m H ((d,.agg c.toArray)::σ) rest)(hn:n=Enc.sz α:=by exact rfl)(hd:d<N:=by decide):
 WL M P N ops Q B m H σ (⟨some d,.load t x,ty,pos,after,none⟩::rest):=Q9 (De ca.h (hn▸cz.h) hx hp) hd k
theorem x'{α:Type}[Enc α][Inhabited α]{x y:Operand}{t e:TypeId}{v:Value}{L:List α}{z:Nat}(n:Nat)(hs:Sl m v L)[cu:TU P t (.slice e)][cz:TS P e z](hx:ev σ x=some v)(hy:ev σ y=some (.int .i64 (n:Int)))(k:∀p,At m p (gt L n)→WL M P N ops Q B m H ((d,.pointer (some p))::σ) rest)
 (h1:(n:Int)<L.length:=by omega) (hn:z=Enc.sz α:=by exact rfl) (hd:d<N:=by decide):WL M P N ops Q B m H σ (⟨some d,.indexAddr t x y,ty,pos,after,none⟩::rest):=Q9 (Mv n cu.h (hn▸cz.h) hx hy hs h1) hd k
theorem o'{x:Operand}{t:TypeId}{v:Value}{cs:List Value}(hx:ev σ x=some v)(hc:v.cells=cs.toArray)(k:∀b,WL M P N ops Q B m (blk b t cs::H) ((d,.pointer (some ⟨b,0,none⟩))::σ) rest)(hd:d<N:=by decide):WL M P N ops Q B m H σ (⟨some d,.box t x,ty,pos,after,none⟩::rest):=Au (Cv hx hc) hd k
theorem n'{t:TypeId}{z:Value}{cs:List Value}(hz:∀w,(zeroValue t).run P w= .ok z w)(hc:z.cells=cs.toArray)(k:∀b,WL M P N ops Q B m (blk b t cs::H) ((d,.pointer (some ⟨b,0,none⟩))::σ) rest)(hd:d<N:=by decide):WL M P N ops Q B m H σ (⟨some d,.alloc t,ty,pos,after,none⟩::rest):=Au (T.alloc hz hc) hd k
theorem w'(j:Nat){x y:Operand}{t:TypeId}{b:Nat}{T':TypeId}{cs vs:List Value}{n:Nat}[cz:TS P t n](hx:ev σ x=some (.pointer (some ⟨b,0,none⟩)))(hy:ev σ y=some (.agg vs.toArray))(hH:A7 H j=some (blk b T' cs))(k:WL M P N ops Q B m (H4 H j (blk b T' vs)) σ rest)
 (hn:vs.length=n:=by exact rfl) (hl:cs.length=n:=by exact rfl) (hv:∀v∈vs,v.oneCell'=true:=by exact ones):WL M P N ops Q B m H σ (⟨none,.store t x y,ty,pos,after,none⟩::rest):=G7 (JJ cz.h hx hy hH hv hn hl) k
theorem Z{V:Value}(ho:ops[i]?=some ⟨some d,op,ty,pos,after,g⟩)(hg:N6 ops σ ⟨some d,op,ty,pos,after,g⟩=some true)(h:OpX P B m H σ op ty V)
 (k:DW P B N ops piv non KK false π m H ((d,V)::σ)) (hd:d<N:=by decide) (hnp:piv.contains i=false:=by rfl) (hfr:non.contains (i+100000)=true→∀m' H',m.le m'→OpX P B m' H' σ op ty V:=by exact fun h=>absurd h (by decide)):DW P B N ops piv non KK false (.cons i π) m H σ:=DW.x ho hg h hd k hnp hfr
theorem U'(n:Nat){σ':B6}{π':Plan}{bs:List Int}(h:HQ N ops piv non n σ π=some (σ',π',bs))(k:DW P B N ops piv non KK false π' m H σ')
 (hb:FS bs:=by exact okt):DW P B N ops piv non KK false π m H σ:=Qn n h k hb
theorem c'{p:Prop}[Decidable p](h:OpX P B m H σ op ty (.bool (decide p)))(hy:p→WL M P N ops Q B m H ((d,.bool true)::σ) rest)(hn:¬p→WL M P N ops Q B m H ((d,.bool false)::σ) rest)(hd:d<N:=by decide):WL M P N ops Q B m H σ (⟨some d,op,ty,pos,after,none⟩::rest):=WL.cond h hd hy hn
theorem e'{p:Prop}[Decidable p](h:OpX P B m H σ op ty (.bool (decide (¬p))))(hy:¬p→WL M P N ops Q B m H ((d,.bool true)::σ) rest)(hn:p→WL M P N ops Q B m H ((d,.bool false)::σ) rest)(hd:d<N:=by decide):WL M P N ops Q B m H σ (⟨some d,op,ty,pos,after,none⟩::rest):=A8L h hd hy hn
theorem C'{p:Prop}[Decidable p](ho:ops[i]?=some ⟨some d,op,ty,pos,after,g⟩)(hg:N6 ops σ ⟨some d,op,ty,pos,after,g⟩=some true)(h:OpX P B m H σ op ty (.bool (decide p)))
 (hy:p→DW P B N ops piv non KK false π m H ((d,.bool true)::σ)) (hn:¬p→DW P B N ops piv non KK false π m H ((d,.bool false)::σ)) (hd:d<N:=by decide) (hnp:piv.contains i=false:=by rfl) (hfr:non.contains (i+100000)=false:=by rfl):DW P B N ops piv non KK false (.cons i π) m H σ:=DW.cond ho hg h hd hy hn hnp hfr
theorem S'{α:Type}[Enc α]{x:Operand}{t:TypeId}{p:Addr}{L:List α}(hp:At m p L)(ho:ops[i]?=some ⟨some d,.load t x,ty,pos,after,g⟩)(hg:N6 ops σ ⟨some d,.load t x,ty,pos,after,g⟩=some true)(hx:ev σ x=some (.pointer (some p)))[ca:TA P t false]
 (k:∀v,Sl m v L→DW P B N ops piv non KK false π m H ((d,v)::σ)) (hd:d<N:=by decide) (hnp:piv.contains i=false:=by rfl) (hfr:non.contains (i+100000)=false:=by rfl):DW P B N ops piv non KK false (.cons i π) m H σ:=J0 ho hg (RI ca.h hx hp) hd k hnp hfr
theorem G'{α:Type}[Enc α]{x:Operand}{t:TypeId}{p:Addr}{a:α}{n:Nat}(hp:At m p a)(ho:ops[i]?=some ⟨some d,.load t x,ty,pos,after,g⟩)(hg:N6 ops σ ⟨some d,.load t x,ty,pos,after,g⟩=some true)[ca:TA P t true][cz:TS P t n](hx:ev σ x=some (.pointer (some p)))
 (k:∀c:List Value,Enc.rd m c a→DW P B N ops piv non KK false π m H ((d,.agg c.toArray)::σ)) (hz:n=Enc.sz α:=by exact rfl) (hd:d<N:=by decide) (hnp:piv.contains i=false:=by rfl) (hfr:non.contains (i+100000)=false:=by rfl):DW P B N ops piv non KK false (.cons i π) m H σ:=J0 ho hg (De ca.h (hz▸cz.h) hx hp) hd k hnp hfr
theorem X'{α:Type}[Enc α][Inhabited α]{x y:Operand}{t e:TypeId}{v:Value}{L:List α}{z:Nat}(n:Nat)(hs:Sl m v L)(ho:ops[i]?=some ⟨some d,.indexAddr t x y,ty,pos,after,g⟩)(hg:N6 ops σ ⟨some d,.indexAddr t x y,ty,pos,after,g⟩=some true)[cu:TU P t (.slice e)][cz:TS P e z](hx:ev σ x=some v)(hy:ev σ y=some (.int .i64 (n:Int)))
 (k:∀p,At m p (gt L n)→DW P B N ops piv non KK false π m H ((d,.pointer (some p))::σ)) (h1:(n:Int)<L.length:=by omega) (hz:z=Enc.sz α:=by exact rfl) (hd:d<N:=by decide) (hnp:piv.contains i=false:=by rfl) (hfr:non.contains (i+100000)=false:=by rfl):DW P B N ops piv non KK false (.cons i π) m H σ:=J0 ho hg (Mv n cu.h (hz▸cz.h) hx hy hs h1) hd k hnp hfr
theorem W'(j:Nat){must:Bool}{x y:Operand}{t:TypeId}{b:Nat}{T':TypeId}{cs vs:List Value}{n:Nat}(ho:ops[i]?=some ⟨none,.store t x y,ty,pos,after,g⟩)(hg:N6 ops σ ⟨none,.store t x y,ty,pos,after,g⟩=some true)
 [cz:TS P t n] (hx:ev σ x=some (.pointer (some ⟨b,0,none⟩))) (hy:ev σ y=some (.agg vs.toArray)) (hH:A7 H j=some (blk b T' cs)) (k:DW P B N ops piv non KK false π m (H4 H j (blk b T' vs)) σ)
 (hp:piv.contains i=true:=by exact rfl) (hn:non.contains i=true:=by exact rfl) (hv:vs.length=n:=by exact rfl) (hl:cs.length=n:=by exact rfl) (h1:∀v∈vs,v.oneCell'=true:=by exact ones):DW P B N ops piv non KK must (.cons i π) m H σ:=B4 ho hp hn hg (JJ cz.h hx hy hH h1 hv hl) k
theorem A8{w:World}{m0:Mem}{v u:Value}(hv:v=u):∀w',St ⟨w,[],m0⟩ m H w'→Ret ⟨w,[],m0⟩ (fun _ _ U=>U=u) (.returned v) w':=fun _ a=>Ret.exact a hv
theorem C2{w:World}{m0:Mem}{v:Value}{R:Mem→Value→Prop}(hv:R m v):∀w',St ⟨w,[],m0⟩ m H w'→Ret ⟨w,[],m0⟩ (fun m' _ U=>R m' U) (.returned v) w':=fun _ a=>B1R a hv
theorem I2{v:Value}{R:Mem→List Ent→Value→Prop}(hv:R m H v):∀w',St B m H w'→Ret B R (.returned v) w':=fun _ a=>B3 a hv
theorem nx{G:Type}{μ:G→Nat}{mG:G→Mem}{HG:G→List Ent}{σG:G→B6}{F:G→Prop}{n:Nat}(g':G)(hF:F g')(hμ:μ g'<n)(hm:m=mG g':=by exact rfl)(hH:(HG g').Sublist H:=by exact CS)
 (hσ:Sub (σG g') σ:=by exact CT):WK N B m H σ fun a w=>∃g' Ds',F g'∧μ g'<n∧St B (mG g') (HG g'++marks Ds') w∧Env N Ds' (σG g') a:=B2L g' hm hH hσ hF hμ
theorem mt{G:Type}{mG:G→Mem}{HG:G→List Ent}{σG:G→B6}{F:G→Prop}(g':G)(hF:F g')(hm:m=mG g':=by exact rfl)(hH:(HG g').Sublist H:=by exact CS)
 (hσ:Sub (σG g') σ:=by exact CT):WK N B m H σ fun a w=>∃g' Ds',F g'∧St B (mG g') (HG g'++marks Ds') w∧Env N Ds' (σG g') a:=B2l g' hm hH hσ hF
theorem fz{α:Type}[Enc α]{b:Nat}{T':TypeId}{cs:List Value}{x:α}{K:Act→World→Prop}(j:Nat)(hX:B.X=[])(hH:A7 H j=some (blk b T' cs))(hx:Enc.rd m cs x)(k:∀m',m.le m'→At m' ⟨b,0,none⟩ x→WK N B m' (X3 H j) σ K):WK N B m H σ K:=Nv j hX hH hx k
theorem fx{α:Type}[Enc α]{b:Nat}{T':TypeId}{cs:List Value}{x:α}{K:Act→World→Prop}{H0 A C:List Ent}(n j:Nat)[h0:NH H H0][h1:TD H0 n A C](hX:B.X=B8 C)(hf:A7 A j=some (blk b T' cs))(hx:Enc.rd m cs x)(k:∀m',m.le m'→At m' ⟨b,0,none⟩ x→WK N B m' (X3 A j++C) σ K):WK N B m H σ K:=A0P j A C hX (h0.h.trans h1.h) hf hx k
end
end Go.Kx
