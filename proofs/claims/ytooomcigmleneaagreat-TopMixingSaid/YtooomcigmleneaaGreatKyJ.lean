import Derived.Test.YtooomcigmleneaaGreatKyG
import Derived.Test.YtooomcigmleneaaGreatKxU
import Derived.Test.YtooomcigmleneaaGreatKxW
set_option linter.all false
namespace Go.Kx
open Go
section
variable{P:Program}{B:Base}{m:Mem}{H:List Ent}{σ:B5}{ty:TypeId}
theorem B1D{x:Operand}{s:TypeId}{i n:Nat}{fs:Array Field}{f:Field}{cs vs:List Value}(hu:∀w,(underlying s).run P w= .ok (.struct fs) w)(hf:fs[i]?=some f)
 (hs:∀w,(sizeOf f.type).run P w= .ok n w) (hx:ev σ x=some (.agg cs.toArray)) (ha:∀w,(isAgg f.type).run P w= .ok true w) (hv:(cs.drop f.offset).take n=vs):OpX P B m H σ (.field s x i) ty (.agg vs.toArray):=
 .ofRun trivial (I8 rfl hx) fun w _ o ho _=>by
  subst hv
  simp[execOp,ho,A6 hx,Instr.field,hu,hf,part,ha,hs,asAgg,List.extract_toArray,List.extract_eq_take_drop]
theorem B8P{α:Type}[Enc α]{x y:Operand}{t e:TypeId}{k i off sz:Nat}{v u:Value}{xs us:List Value}{L:List α}{b a:α}(hz:∀w,(sizeOf t).run P w= .ok sz w)
 (hx:ev σ x=some (.pointer (some (rp v (i*Enc.sz α+off))))) (hy:ev σ y=some u) (hc:u.cells=us.toArray) (hl:us.length=sz) (h0:0<us.length) (hH:B2 H k=some (row v e (Enc.sz α) L.length xs)) (hi:L[i]?=some b)
 (hL:RdL m xs L) (ho:off+us.length≤Enc.sz α) (ha:∀vs,Enc.rd m vs b→Enc.rd m (vs.take off++us++vs.drop (off+us.length)) a) (h1:∀u∈us,u.oneCell'=true):
 OpTo P B m H σ (.store t x y) ty (fun _ m' H'=>m'=m∧∃ys,RdL m ys (L.set i a)∧H'=H4 H k (row v e (Enc.sz α) (L.set i a).length ys)):=
 .ofRun trivial (D0 rfl hx hy) fun w hw o hop _=>by
  have hil:i<L.length:=(List.getElem?_eq_some_iff.1 hi).1
  have hle:(i+1)*Enc.sz α≤L.length*Enc.sz α:=Nat.mul_le_mul_right _ hil
  rw[Nat.add_mul,Nat.one_mul]at hle
  have hxl:=hL.1
  obtain⟨vs,h2,h3⟩:=hL.2 i b hi
  have hvl:=Enc.len h2
  have hvs:(xs.drop (i*Enc.sz α)).take (Enc.sz α)=vs:=by
   apply List.ext_getElem?
   intro j
   rw[List.getElem?_take]
   by_cases hj:j<Enc.sz α
   ·rw[if_pos hj,List.getElem?_drop]
    have hjv:j<vs.length:=by omega
    rw[h3 j vs[j] (List.getElem?_eq_getElem hjv),List.getElem?_eq_getElem hjv]
   ·rw[if_neg hj,List.getElem?_eq_none];omega
  obtain⟨w',hr,hs'⟩:=A2D (P:=P) (off:=i*Enc.sz α+off) hw hH h0 (by omega) h1
  have hset:=hL.set (ha vs h2) hil
  have hnl:(vs.take off++us++vs.drop (off+us.length)).length=Enc.sz α:=Enc.len (ha vs h2)
  refine⟨undef,w',.inr ⟨by simp[execOp,hop,A6 hx,A6 hy,Instr.storeAt,Instr.sureAddr,storeVar,hz,hc,hl,hr],rfl⟩,m,_,⟨rfl,_,hset,rfl⟩,?_⟩
  rw[List.length_set]
  have he:xs.take (i*Enc.sz α)++(vs.take off++us++vs.drop (off+us.length))++xs.drop (i*Enc.sz α+(vs.take off++us++vs.drop (off+us.length)).length)=xs.take (i*Enc.sz α+off)++us++xs.drop (i*Enc.sz α+off+us.length):=by
   rw[hnl,←hvs]
   have e1:xs.take (i*Enc.sz α+off)=xs.take (i*Enc.sz α)++((xs.drop (i*Enc.sz α)).take (Enc.sz α)).take off:=by
    rw[List.take_take,Nat.min_eq_left (by omega),List.take_add]
   have e2:xs.drop (i*Enc.sz α+off+us.length)=((xs.drop (i*Enc.sz α)).take (Enc.sz α)).drop (off+us.length)++xs.drop (i*Enc.sz α+Enc.sz α):=by
    have h5:xs.drop (i*Enc.sz α)=(xs.drop (i*Enc.sz α)).take (Enc.sz α)++xs.drop (i*Enc.sz α+Enc.sz α):=by
     rw[←List.drop_drop,List.take_append_drop]
    have h6:xs.drop (i*Enc.sz α+off+us.length)=(xs.drop (i*Enc.sz α)).drop (off+us.length):=by rw[List.drop_drop];congr 1;omega
    rw[h6]
    conv=>lhs;rw[h5]
    rw[List.drop_append_of_le_length (by rw[List.length_take,List.length_drop];omega)]
   rw[e1,e2]
   simp[List.append_assoc]
  rw[he];exact hs'
theorem A6D{x y:Operand}{t kt et:TypeId}{b:Nat}{α:Type}[Flat α][DecidableEq α]{V:Value→Prop}{k:α}{z:Value}(ht:∀w,(underlying t).run P w= .ok (.map kt et) w)(hK:KeyT P kt α)(hz:∀w,(zeroValue et).run P w= .ok z w)
 (hx:ev σ x=some (.map (some b))) (hy:ev σ y=some (.agg (Flat.enc k).toArray)) (hM:MapM m b α V) (hV:V z):
 E P B m H σ (.lookup t x y true) ty (fun p:Value×Bool=>.tuple #[p.1,.bool p.2]) (fun p=>V p.1):=by
 obtain⟨es,clock,hb,hk,hv⟩:=hM
 obtain⟨r,h1,h2⟩:=W9 hK k es.toList hk
 cases r with
 |none=>exact⟨(z,false),.ofRun trivial (D0 rfl hx hy) fun w hw o ho _=>by simp[execOp,ho,A6 hx,A6 hy,Instr.lookup,ht,I7 (hw.sub _ _ hb),hK.chk,h1,hz],hV⟩
 |some p=>
  obtain⟨i,v⟩:=p
  obtain⟨_,e,h3,h4,_⟩:=h2 i v rfl
  exact⟨(v,true),.ofRun trivial (D0 rfl hx hy) fun w hw o ho _=>by simp[execOp,ho,A6 hx,A6 hy,Instr.lookup,ht,I7 (hw.sub _ _ hb),hK.chk,h1],h4▸hv e (List.mem_of_getElem? h3)⟩
theorem B3R{α:Type}[Enc α][Inhabited α]{x:Operand}{t e:TypeId}{k i n:Nat}{v:Value}{xs:List Value}{L:List α}(ha:∀w,(isAgg t).run P w= .ok true w)(hz:∀w,(sizeOf t).run P w= .ok n w)(hn:Enc.sz α=n)
 (hx:ev σ x=some (.pointer (some (rp v (i*n))))) (hH:B2 H k=some (row v e n L.length xs)) (hL:RdL m xs L) (hi:i<L.length):
 E P B m H σ (.load t x) ty (fun vs:List Value=>.agg vs.toArray) (fun vs=>Enc.rd m vs (gt L i)):=by
 subst hn
 obtain⟨vs,h1,h2⟩:=hL.2 i _ (A0W hi)
 exact⟨vs,A4d ha hz hx hH (Enc.len h1) h2,h1⟩
end
section
variable{N:Nat}{B:Base}{m:Mem}{H:List Ent}{σ:B5}{K:Act→World→Prop}
theorem B4P{α:Type}[Enc α]{b:Nat}{T':TypeId}{cs:List Value}{x:α}(k:Nat)(A C:List Ent)(hX:B.X=B7 C)(hH:H=A++C)(hf:B2 A k=some (blk b T' cs))(hx:Enc.rd m cs x)
 (kk:∀m',m.le m'→At m' ⟨b,0,none⟩ x→WK N B m' (Z4 A k++C) σ K):WK N B m H σ K:=
 B4F k A C hX hH hf fun m' hm hc=>kk m' hm ⟨cs,Enc.mono hm hx,hc⟩
theorem A8w{α:Type}[Flat α][Enc α][FlatEnc α]{v:Value}{e:TypeId}{L:List α}(k:Nat)(A C:List Ent)(hX:B.X=B7 C)(hH:H=A++C)(hf:B2 A k=some (A5 v e L))(hl:L.length≤C8)
 (kk:∀m',m.le m'→Sl m' v L→WK N B m' (Z4 A k++C) σ K):WK N B m H σ K:=by
 intro Ds w hw a ha
 subst hH
 have hw2:St B m (A++(C++marks Ds)) w:=by simpa using hw
 have hr:(row v e (Flat.n α) L.length (flat L)).holds w:=C1 hw2 (U3 hf)
 obtain⟨h1,h2⟩:=hw2.freezeX (fun c hc=>by
  have:=hw2.apart hf c hc
  rw[hX];intro hin;exact this (by rw[E0];exact List.mem_append_left _ hin)) (U3 hf)
 rw[B1o hf]at h1
 have hx:=RdL.flat m L
 refine kk _ h2 ?_ Ds w (by simpa using h1) a ha
 rcases hr.2 with⟨rfl,h0⟩|⟨g,cap,cur,rfl,_,hg,hnc,hcm,hcs,htake⟩
 ·have:L=[]:=List.eq_nil_of_length_eq_zero h0
  subst this;exact .nil
 ·refine .some _ _ _ (fun _=>rfl) hnc hl hcm ?_
  intro i x hix
  obtain⟨vs,h3,h4⟩:=hx.2 i x hix
  refine⟨vs,Enc.mono h2 h3,rfl,cur,e,(0,0),by simp[A5,row,Value.ownBlock,hg],?_⟩
  intro j u hu
  have h5:=h4 j u hu
  rw[←htake,List.getElem?_take]at h5
  split at h5
  ·simpa[Nat.add_assoc,FlatEnc.sz]using h5
  ·cases h5
end
section
variable{N:Nat}{B:Base}{m:Mem}{H:List Ent}{σ:B5}{K:Act→World→Prop}
theorem B3J{α:Type}[Enc α]{Q:α→Prop}{n k:Nat}(hn:0<n)(hs:Enc.sz α=n){v:Value}{e:TypeId}{xs:List Value}{L:List α}(hH:B2 H k=some (row v e n L.length xs))(hx:RdL m xs L)(hq:∀a∈L,Q a)
 (kk:∀R:List (BigV n),R.length=L.length→GoodL Q m R→WK N B m (H4 H k (@A5 _ (BigV.flat n hn) v e R)) σ K):WK N B m H σ K:=by
 obtain⟨R,h1,h2,h3⟩:=C3p hn hs hx hq
 have h4:=kk R h1 h3
 unfold A5 at h4
 rw[h2,h1]at h4
 obtain⟨A,C,rfl,hup,_⟩:=U4 hH
 rwa [hup]at h4
theorem B0m{α:Type}[Enc α]{Q:α→Prop}{n k:Nat}(hn:0<n)(hs:Enc.sz α=n){v:Value}{e:TypeId}{R:List (BigV n)}(hH:B2 H k=some (@A5 _ (BigV.flat n hn) v e R))(hg:GoodL Q m R)
 (kk:∀(L:List α) (xs:List Value),L.length=R.length→RdL m xs L→(∀a∈L,Q a)→WK N B m (H4 H k (row v e n L.length xs)) σ K):WK N B m H σ K:=by
 obtain⟨L,h1,h2,h3⟩:=hg.rdl hn hs
 have h4:=kk L _ h1 h2 h3
 rw[h1]at h4
 obtain⟨A,C,rfl,hup,_⟩:=U4 hH
 rw[hup]at h4
 exact h4
end
open Go
section
variable{P:Program}{B:Base}{m:Mem}{H:List Ent}{σ:B5}{ty:TypeId}
theorem A2c{f:FuncId}{x:Operand}{bd cap:Array Value}{l:List Operand}{ts:Array TypeId}{vs:List Value}{A Hs:List Ent}{R:Mem→List Ent→Value→Prop}(hf:Enters P f)(hx:ev σ x=some (.func (.func f) bd cap))
 (hl:Z5 σ l=some vs) (hH:H=A++Hs) (hc:Mut P f (bd++vs.toArray++cap) m Hs R):OpTo P B m H σ (.call (Call.mk (.value x) l.toArray ts)) ty (fun v m' H'=>m.le m'∧∃Es,R m' Es v∧H'=A++Es):=
 ⟨trivial,A0j hx hl,fun M B w hw o a next Q ho ht kk=>M4 M<| by
  subst hH
  rw[A7m hf hx hl w o ho]
  have hw':=hw.perm (H':=Hs++A) List.perm_append_comm
  refine(hc w hw'.part).mono fun e' w' hr=>?_
  obtain⟨u,m',H',rfl,hs,hR⟩:=hr
  exact kk u m' _ w' ⟨hs.le,H',hR,rfl⟩ ((hw'.handed hs).perm List.perm_append_comm)⟩
end
theorem C2z{N:Nat}{B:Base}{m:Mem}{H H':List Ent}{σ:B5}{K:Act→World→Prop}(h:H'=H)(k:WK N B m H' σ K):WK N B m H σ K:=h▸k
open Go
theorem OpTo.wk{P:Program}{B:Base}{m:Mem}{H H':List Ent}{σ:B5}{op:Op}{ty:TypeId}{T:Value→Mem→List Ent→Prop}(h:WkL H' H)(k:OpTo P B m H' σ op ty T):OpTo P B m H σ op ty T:=
 ⟨k.sel,k.defd,fun M B' w hw=>k.run M B' w (hw.wk h)⟩
theorem mapS.up{b:Nat}{α:Type}[Flat α]{V V':Value→Prop}{s:Int}{H H':List Ent}(hV:∀v,V v→V' v)(h:WkL H' H):WkL (mapS b α V' s::H') (mapS b α V s::H):=
 .cons rfl (fun _ ⟨es,c,h1,h2,h3,h4⟩=>⟨es,c,h1,h2,fun e he=>hV _ (h3 e he),h4⟩) h
end Go.Kx
namespace Go.Kx
open Go
class TF(P:Program)(s:TypeId)(i:Nat)(off:outParam Nat):Prop where
 h:∃fs f n,(∀w,(underlying s).run P w= .ok (.struct fs) w)∧fs[i]?=some f∧(∀w,(sizeOf f.type).run P w= .ok (n+1) w)∧f.offset=off
class TU(P:Program)(t:TypeId)(d:outParam TypeDesc):Prop where
 h:∀w,(underlying t).run P w= .ok d w
class TS(P:Program)(t:TypeId)(n:outParam Nat):Prop where
 h:∀w,(sizeOf t).run P w= .ok n w
class TA(P:Program)(t:TypeId)(b:outParam Bool):Prop where
 h:∀w,(isAgg t).run P w= .ok b w
theorem C8Y{P:Program}{s:TypeId}{i n:Nat}{fs:Array Field}{f:Field}(hu:∀w,(underlying s).run P w= .ok (.struct fs) w)(hf:fs[i]?=some f)(hs:∀w,(sizeOf f.type).run P w= .ok (n+1) w):TF P s i f.offset:=⟨fs,f,n,hu,hf,hs,rfl⟩
section
variable{P:Program}{B:Base}{m:Mem}{H:List Ent}{σ:B5}{ty:TypeId}
theorem A.f{x:Operand}{s:TypeId}{i off:Nat}{p:Addr}(hx:ev σ x=some (.pointer (some p)))[c:TF P s i off]:OpX P B m H σ (.fieldAddr s x i) ty (.pointer (some (p.add off))):=by
 obtain⟨fs,f,n,h1,h2,h3,rfl⟩:=c.h
 exact X.field h1 h2 h3 hx
theorem A.b(k:Nat){x:Operand}{t:TypeId}{b off:Nat}{T:TypeId}{cs:List Value}{v:Value}(hx:ev σ x=some (.pointer (some ⟨b,off,none⟩)))(hH:B2 H k=some (blk b T cs))(hc:cs[off]?=some v)[c:TA P t false]:OpX P B m H σ (.load t x) ty v:=A7T c.h hx hH hc
theorem K4(k:Nat){x:Operand}{t:TypeId}{b n:Nat}{T:TypeId}{cs:List Value}(hx:ev σ x=some (.pointer (some ⟨b,0,none⟩)))(hH:B2 H k=some (blk b T cs))[ca:TA P t true][cz:TS P t n](hn:cs.length=n):OpX P B m H σ (.load t x) ty (.agg cs.toArray):=A9n ca.h cz.h hx hH hn
theorem A.l{α:Type}[Enc α]{x:Operand}{t e:TypeId}{v:Value}{L:List α}(hx:ev σ x=some v)(hs:Sl m v L)[c:TU P t (.slice e)]:OpX P B m H σ (.call (Call.mk (.builtin .len) #[x] #[t])) ty (.int .i64 L.length):=X.len c.h hx hs
theorem A.i{x:Operand}{t:TypeId}{p:Addr}{n:Int}(hx:ev σ x=some (.pointer (some p)))(hp:At m p n)[c:TA P t false]:OpX P B m H σ (.load t x) ty (.int .i64 n):=A2m c.h hx hp
end
structure Wrap(p:Prop):Prop where
 h:p
end Go.Kx
namespace Go.Kx
open Go
class FE(H:List Ent)(b:Nat)(k:outParam Nat)(T:outParam TypeId)(cs:outParam (List Value)):Prop where
 h:B2 H k=some (blk b T cs)
instance(priority:=high) FE.z{H:List Ent}{b:Nat}{T:TypeId}{cs:List Value}:FE (blk b T cs::H) b 0 T cs:=⟨rfl⟩
instance FE.s{H:List Ent}{e:Ent}{b k:Nat}{T:TypeId}{cs:List Value}[c:FE H b k T cs]:FE (e::H) b (k+1) T cs:=⟨c.h⟩
class RM(H:List Ent)(i:Nat)(e:outParam Ent)(R:outParam (List Ent)):Prop where
 h:(e::R).Perm H
instance(priority:=high) RM.z{H:List Ent}{e:Ent}:RM (e::H) 0 e H:=⟨.refl _⟩
instance RM.s{H R:List Ent}{a e:Ent}{i:Nat}[c:RM H i e R]:RM (a::H) (i+1) e (a::R):=⟨(List.Perm.swap a e R).trans (c.h.cons a)⟩
class PI(H:List Ent)(is:List Nat)(H':outParam (List Ent)):Prop where
 h:H'.Perm H
instance PI.z{H:List Ent}:PI H [] H:=⟨.refl _⟩
instance PI.s{H R S:List Ent}{e:Ent}{i:Nat}{is:List Nat}[c:RM H i e R][d:PI R is S]:PI H (i::is) (e::S):=⟨(d.h.cons e).trans c.h⟩
class SP(H:List Ent)(is:List Nat)(Hs:outParam (List Ent))(A:outParam (List Ent)):Prop where
 h:(Hs++A).Perm H
instance SP.z{H:List Ent}:SP H [] [] H:=⟨.refl _⟩
instance SP.s{H R Hs A:List Ent}{e:Ent}{i:Nat}{is:List Nat}[c:RM H i e R][d:SP R is Hs A]:SP H (i::is) (e::Hs) A:=⟨(d.h.cons e).trans c.h⟩
class UPc(H:List Ent)(k:Nat)(e:Ent)(H':outParam (List Ent)):Prop where
 h:H4 H k e=H'
instance(priority:=high) UPc.z{H:List Ent}{a e:Ent}:UPc (a::H) 0 e (e::H):=⟨rfl⟩
instance UPc.s{H H':List Ent}{k:Nat}{a e:Ent}[c:UPc H k e H']:UPc (a::H) (k+1) e (a::H'):=⟨by show a::H4 H k e=_;rw[c.h]⟩
class DLc(H:List Ent)(k:Nat)(H':outParam (List Ent)):Prop where
 h:Z4 H k=H'
instance(priority:=high) DLc.z{H:List Ent}{a:Ent}:DLc (a::H) 0 H:=⟨rfl⟩
instance DLc.s{H H':List Ent}{k:Nat}{a:Ent}[c:DLc H k H']:DLc (a::H) (k+1) (a::H'):=⟨by show a::Z4 H k=_;rw[c.h]⟩
class APc(L H:List Ent)(H':outParam (List Ent)):Prop where
 h:L++H=H'
instance APc.z{H:List Ent}:APc [] H H:=⟨rfl⟩
instance APc.s{L H H':List Ent}{a:Ent}[c:APc L H H']:APc (a::L) H (a::H'):=⟨by show a::(L++H)=_;rw[c.h]⟩
class NH(H:List Ent)(H':outParam (List Ent)):Prop where
 h:H=H'
instance(priority:=low) NH.x{H:List Ent}:NH H H:=⟨rfl⟩
instance NH.n:NH [] []:=⟨rfl⟩
instance NH.c{H H':List Ent}{e:Ent}[c:NH H H']:NH (e::H) (e::H'):=⟨by rw[c.h]⟩
instance NH.u{H H0 H':List Ent}{k:Nat}{e:Ent}[c:NH H H0][d:UPc H0 k e H']:NH (H4 H k e) H':=⟨by rw[c.h,d.h]⟩
instance NH.d{H H0 H':List Ent}{k:Nat}[c:NH H H0][d:DLc H0 k H']:NH (Z4 H k) H':=⟨by rw[c.h,d.h]⟩
instance NH.a{L L0 H H0 H':List Ent}[c:NH L L0][c':NH H H0][d:APc L0 H0 H']:NH (L++H) H':=⟨by rw[c.h,c'.h,d.h]⟩
theorem WK.p{N:Nat}{B:Base}{m:Mem}{H H0 H':List Ent}{σ:B5}{K:Act→World→Prop}(is:List Nat)[n:NH H H0][c:PI H0 is H'](k:WK N B m H' σ K):WK N B m H σ K:=WK.perm H' (n.h▸c.h) k
theorem I3{P:Program}{B:Base}{m:Mem}{H H0:List Ent}{σ:B5}{ty:TypeId}{f:FuncId}{l:List Operand}{ts:Array TypeId}{vs:List Value}{A Hs:List Ent}{R:Mem→List Ent→Value→Prop}(is:List Nat)[n:NH H H0][c:SP H0 is Hs A](hf:Enters P f)(hl:Z5 σ l=some vs)
 (hc:Mut P f vs.toArray m Hs R):OpTo P B m H σ (.call (Call.mk (.value (.func f)) l.toArray ts)) ty (fun v m' H'=>m.le m'∧∃Es,R m' Es v∧H'=Es++A):=C3 hf hl (n.h▸c.h) hc
section
variable{M:Option Nat}{P:Program}{N:Nat}{ops:Array Oper}{Q:Exit→Act→World→Prop}{B:Base}{m:Mem}{H:List Ent}{σ:B5}{rest:List Oper}{d i:Nat}{op:Op}{ty:TypeId}{pos:String}{after:Array Edge}{g:Option (Nat×Bool)}{piv non:List Nat}{KK:Mem→List Ent→B5→Prop}{π:Plan}
theorem B0{x y:Operand}{t e e':TypeId}{v:Value}{sz n:Nat}{xs:List Value}{i:Int}(k j:Nat)[cu:TU P t (.slice e)][cz:TS P e sz](hx:ev σ x=some v:=by exact rfl)(hy:ev σ y=some (.int .i64 i):=by exact rfl)(hH:B2 H k=some (row v e' sz n xs):=by exact rfl)
 (hj:i=j:=by omega) (h1:i<n:=by first|omega|(simp;omega)|simp):OpX P B m H σ (.indexAddr t x y) ty (.pointer (some (rp v (j*sz)))):=B1I j cu.h cz.h hx hy hH hj h1
theorem A.fs{α:Type}[Flat α][Inhabited α]{x:Operand}{t e:TypeId}{n:Nat}{v:Value}{L:List α}(k i off:Nat)(us:List Value)[ca:TA P t true][cz:TS P t n]
 (hx:ev σ x=some (.pointer (some (rp v (i*Flat.n α+off))))) (hH:B2 H k=some (A5 v e L)) (hn:us.length=n) (hu:((Flat.enc (gt L i)).drop off).take n=us) (hi:i<L.length:=by first|omega|(simp;omega)|simp):OpX P B m H σ (.load t x) ty (.agg us.toArray):=B3f ca.h cz.h hx hH hi hn hu
theorem E4{α:Type}[Flat α][Inhabited α]{x:Operand}{t e:TypeId}{n:Nat}{v:Value}{L:List α}(k i:Nat)[ca:TA P t true][cz:TS P t n]
 (hn:Flat.n α=n) (hx:ev σ x=some (.pointer (some (rp v (i*n))))) (hH:B2 H k=some (A5 v e L)) (hi:i<L.length:=by first|omega|(simp;omega)|simp):OpX P B m H σ (.load t x) ty (.agg (Flat.enc (gt L i)).toArray):=C0c ca.h cz.h hn hx hH hi
theorem DW.u{V:Value}(h:OpX P B m H σ op ty V)(k:DW P B N ops piv non KK false π m H ((d,V)::σ))(ho:ops[i]?=some ⟨some d,op,ty,pos,after,g⟩:=by exact rfl)(hg:M6 ops σ ⟨some d,op,ty,pos,after,g⟩=some true:=by exact rfl)
 (hd:d<N:=by decide) (hnp:piv.contains i=false:=by rfl) (hfr:non.contains (i+100000)=true→∀m' H',m.le m'→OpX P B m' H' σ op ty V:=by exact fun h=>absurd h (by decide)):DW P B N ops piv non KK false (.cons i π) m H σ:=DW.x ho hg h hd k hnp hfr
end
end Go.Kx
namespace Go.Kx
open Go
class TD(H:List Ent)(n:Nat)(A C:outParam (List Ent)):Prop where
 h:H=A++C
instance(priority:=high) TD.z{H:List Ent}:TD H 0 [] H:=⟨rfl⟩
instance TD.s{H A C:List Ent}{e:Ent}{n:Nat}[c:TD H n A C]:TD (e::H) (n+1) (e::A) C:=⟨by rw[c.h];rfl⟩
theorem slo{α:Type}{e:Enc α}{m:Mem}{v:Value}{L:List α}(h: @Sl α e m v L):v.oneCell'=true:= @Sl.one _ _ _ _ _ h
theorem C4X{vs:List Value}(h:∀v∈vs,v.oneCell'=true:=by(repeat' (first|exact C0|refine A4 (by first|rfl|assumption|(apply slo;assumption)) ?_))):∀v∈vs,v.oneCell'=true:=h
theorem okt{bs:List Int}(h:okB bs:=by first|exact trivial|exact⟨by omega,trivial⟩|exact⟨by omega,by omega,trivial⟩|(repeat' (first|exact trivial|refine⟨by omega,?_⟩))):okB bs:=h
theorem A2f{A C:List Ent}(h:A.Sublist C:=by first|exact .refl _|(repeat' (first|exact .slnil|refine .cons_cons _ ?_|refine .cons _ ?_|exact .refl _))):A.Sublist C:=h
theorem A2g{σ τ:B5}(h:Sub σ τ:=by(repeat' (first|exact Sub.nil|refine Sub.cons rfl ?_))):Sub σ τ:=h
theorem r'{α:Sort _}{a:α}:a=a:=rfl
section
variable{M:Option Nat}{P:Program}{N:Nat}{ops:Array Oper}{Q:Exit→Act→World→Prop}{B:Base}{m:Mem}{H:List Ent}{σ:B5}{rest:List Oper}{d i:Nat}{op:Op}{ty:TypeId}{pos:String}{after:Array Edge}{g:Option (Nat×Bool)}{piv non:List Nat}{KK:Mem→List Ent→B5→Prop}{π:Plan}
theorem y'{V:Value}(h:OpX P B m H σ op ty V)(k:WL M P N ops Q B m H ((d,V)::σ) rest)(hd:d<N:=by decide):WL M P N ops Q B m H σ (⟨some d,op,ty,pos,after,none⟩::rest):=WL.x h hd k
theorem u'(n:Nat){σ':B5}{l l':List Oper}{bs:List Int}(h:B1b N ops n σ l=some (σ',l',bs))(k:WL M P N ops Q B m H σ' l')
 (hb:okB bs:=by exact okt):WL M P N ops Q B m H σ l:=C6U n h k hb
theorem t'{s:TypeId}{i off:Nat}[c:TF P s i off]:TF P s i off:=c
theorem f'{x:Operand}{s:TypeId}{i off:Nat}{p:Addr}(hx:ev σ x=some (.pointer (some p)))(c:TF P s i off)(k:WL M P N ops Q B m H ((d,.pointer (some (p.add off)))::σ) rest)(hd:d<N:=by decide):WL M P N ops Q B m H σ (⟨some d,.fieldAddr s x i,ty,pos,after,none⟩::rest):=WL.x (A.f hx) hd k
theorem b'(j:Nat){x:Operand}{t:TypeId}{b off:Nat}{T:TypeId}{cs:List Value}{v:Value}(hx:ev σ x=some (.pointer (some ⟨b,off,none⟩)))(hH:B2 H j=some (blk b T cs))(hc:cs[off]?=some v)[c:TA P t false](k:WL M P N ops Q B m H ((d,v)::σ) rest)(hd:d<N:=by decide):
 WL M P N ops Q B m H σ (⟨some d,.load t x,ty,pos,after,none⟩::rest):=WL.x (A7T c.h hx hH hc) hd k
theorem a'(j:Nat){x:Operand}{t:TypeId}{b n:Nat}{T:TypeId}{cs:List Value}[ca:TA P t true][cz:TS P t n](hx:ev σ x=some (.pointer (some ⟨b,0,none⟩)))(hH:B2 H j=some (blk b T cs))(k:WL M P N ops Q B m H ((d,.agg cs.toArray)::σ) rest)(hn:cs.length=n:=by exact rfl)(hd:d<N:=by decide):
 WL M P N ops Q B m H σ (⟨some d,.load t x,ty,pos,after,none⟩::rest):=WL.x (A9n ca.h cz.h hx hH hn) hd k
theorem l'{α:Type}[Enc α]{x:Operand}{t e:TypeId}{v:Value}{L:List α}(hs:Sl m v L)(hx:ev σ x=some v)[c:TU P t (.slice e)](k:WL M P N ops Q B m H ((d,.int .i64 L.length)::σ) rest)(hd:d<N:=by decide):
 WL M P N ops Q B m H σ (⟨some d,.call (Call.mk (.builtin .len) #[x] #[t]),ty,pos,after,none⟩::rest):=WL.x (X.len c.h hx hs) hd k
theorem i'{x:Operand}{t:TypeId}{p:Addr}{n:Int}(hp:At m p n)(hx:ev σ x=some (.pointer (some p)))[c:TA P t false](k:WL M P N ops Q B m H ((d,.int .i64 n)::σ) rest)(hd:d<N:=by decide):
 WL M P N ops Q B m H σ (⟨some d,.load t x,ty,pos,after,none⟩::rest):=WL.x (A2m c.h hx hp) hd k
theorem s'{α:Type}[Enc α]{x:Operand}{t:TypeId}{p:Addr}{L:List α}(hp:At m p L)(hx:ev σ x=some (.pointer (some p)))[ca:TA P t false](k:∀v,Sl m v L→WL M P N ops Q B m H ((d,v)::σ) rest)(hd:d<N:=by decide):WL M P N ops Q B m H σ (⟨some d,.load t x,ty,pos,after,none⟩::rest):=
 P5 (B3n ca.h hx hp) hd k
theorem g'{α:Type}[Enc α]{x:Operand}{t:TypeId}{p:Addr}{a:α}{n:Nat}(hp:At m p a)[ca:TA P t true][cz:TS P t n](hx:ev σ x=some (.pointer (some p)))(k:∀c:List Value,Enc.rd m c a→WL M P N ops Q B m H ((d,.agg c.toArray)::σ) rest)(hn:n=Enc.sz α:=by exact rfl)(hd:d<N:=by decide):
 WL M P N ops Q B m H σ (⟨some d,.load t x,ty,pos,after,none⟩::rest):=P5 (A2s ca.h (hn▸cz.h) hx hp) hd k
theorem x'{α:Type}[Enc α][Inhabited α]{x y:Operand}{t e:TypeId}{v:Value}{L:List α}{z:Nat}(n:Nat)(hs:Sl m v L)[cu:TU P t (.slice e)][cz:TS P e z](hx:ev σ x=some v)(hy:ev σ y=some (.int .i64 (n:Int)))(k:∀p,At m p (gt L n)→WL M P N ops Q B m H ((d,.pointer (some p))::σ) rest)
 (h1:(n:Int)<L.length:=by omega) (hn:z=Enc.sz α:=by exact rfl) (hd:d<N:=by decide):WL M P N ops Q B m H σ (⟨some d,.indexAddr t x y,ty,pos,after,none⟩::rest):=P5 (A9p n cu.h (hn▸cz.h) hx hy hs h1) hd k
theorem o'{x:Operand}{t:TypeId}{v:Value}{cs:List Value}(hx:ev σ x=some v)(hc:v.cells=cs.toArray)(k:∀b,WL M P N ops Q B m (blk b t cs::H) ((d,.pointer (some ⟨b,0,none⟩))::σ) rest)(hd:d<N:=by decide):WL M P N ops Q B m H σ (⟨some d,.box t x,ty,pos,after,none⟩::rest):=A1U (A4M hx hc) hd k
theorem n'{t:TypeId}{z:Value}{cs:List Value}(hz:∀w,(zeroValue t).run P w= .ok z w)(hc:z.cells=cs.toArray)(k:∀b,WL M P N ops Q B m (blk b t cs::H) ((d,.pointer (some ⟨b,0,none⟩))::σ) rest)(hd:d<N:=by decide):WL M P N ops Q B m H σ (⟨some d,.alloc t,ty,pos,after,none⟩::rest):=A1U (T.alloc hz hc) hd k
theorem w'(j:Nat){x y:Operand}{t:TypeId}{b:Nat}{T':TypeId}{cs vs:List Value}{n:Nat}[cz:TS P t n](hx:ev σ x=some (.pointer (some ⟨b,0,none⟩)))(hy:ev σ y=some (.agg vs.toArray))(hH:B2 H j=some (blk b T' cs))(k:WL M P N ops Q B m (H4 H j (blk b T' vs)) σ rest)
 (hn:vs.length=n:=by exact rfl) (hl:cs.length=n:=by exact rfl) (hv:∀v∈vs,v.oneCell'=true:=by exact C4X):WL M P N ops Q B m H σ (⟨none,.store t x y,ty,pos,after,none⟩::rest):=I2 (A7o cz.h hx hy hH hv hn hl) k
theorem Y'{V:Value}(ho:ops[i]?=some ⟨some d,op,ty,pos,after,g⟩)(hg:M6 ops σ ⟨some d,op,ty,pos,after,g⟩=some true)(h:OpX P B m H σ op ty V)
 (k:DW P B N ops piv non KK false π m H ((d,V)::σ)) (hd:d<N:=by decide) (hnp:piv.contains i=false:=by rfl) (hfr:non.contains (i+100000)=true→∀m' H',m.le m'→OpX P B m' H' σ op ty V:=by exact fun h=>absurd h (by decide)):DW P B N ops piv non KK false (.cons i π) m H σ:=DW.x ho hg h hd k hnp hfr
theorem U'(n:Nat){σ':B5}{π':Plan}{bs:List Int}(h:A8W N ops piv non n σ π=some (σ',π',bs))(k:DW P B N ops piv non KK false π' m H σ')
 (hb:okB bs:=by exact okt):DW P B N ops piv non KK false π m H σ:=C2H n h k hb
theorem c'{p:Prop}[Decidable p](h:OpX P B m H σ op ty (.bool (decide p)))(hy:p→WL M P N ops Q B m H ((d,.bool true)::σ) rest)(hn:¬p→WL M P N ops Q B m H ((d,.bool false)::σ) rest)(hd:d<N:=by decide):WL M P N ops Q B m H σ (⟨some d,op,ty,pos,after,none⟩::rest):=WL.cond h hd hy hn
theorem e'{p:Prop}[Decidable p](h:OpX P B m H σ op ty (.bool (decide (¬p))))(hy:¬p→WL M P N ops Q B m H ((d,.bool true)::σ) rest)(hn:p→WL M P N ops Q B m H ((d,.bool false)::σ) rest)(hd:d<N:=by decide):WL M P N ops Q B m H σ (⟨some d,op,ty,pos,after,none⟩::rest):=B9V h hd hy hn
theorem C'{p:Prop}[Decidable p](ho:ops[i]?=some ⟨some d,op,ty,pos,after,g⟩)(hg:M6 ops σ ⟨some d,op,ty,pos,after,g⟩=some true)(h:OpX P B m H σ op ty (.bool (decide p)))
 (hy:p→DW P B N ops piv non KK false π m H ((d,.bool true)::σ)) (hn:¬p→DW P B N ops piv non KK false π m H ((d,.bool false)::σ)) (hd:d<N:=by decide) (hnp:piv.contains i=false:=by rfl) (hfr:non.contains (i+100000)=false:=by rfl):DW P B N ops piv non KK false (.cons i π) m H σ:=DW.cond ho hg h hd hy hn hnp hfr
theorem S'{α:Type}[Enc α]{x:Operand}{t:TypeId}{p:Addr}{L:List α}(hp:At m p L)(ho:ops[i]?=some ⟨some d,.load t x,ty,pos,after,g⟩)(hg:M6 ops σ ⟨some d,.load t x,ty,pos,after,g⟩=some true)(hx:ev σ x=some (.pointer (some p)))[ca:TA P t false]
 (k:∀v,Sl m v L→DW P B N ops piv non KK false π m H ((d,v)::σ)) (hd:d<N:=by decide) (hnp:piv.contains i=false:=by rfl) (hfr:non.contains (i+100000)=false:=by rfl):DW P B N ops piv non KK false (.cons i π) m H σ:=G9 ho hg (B3n ca.h hx hp) hd k hnp hfr
theorem G'{α:Type}[Enc α]{x:Operand}{t:TypeId}{p:Addr}{a:α}{n:Nat}(hp:At m p a)(ho:ops[i]?=some ⟨some d,.load t x,ty,pos,after,g⟩)(hg:M6 ops σ ⟨some d,.load t x,ty,pos,after,g⟩=some true)[ca:TA P t true][cz:TS P t n](hx:ev σ x=some (.pointer (some p)))
 (k:∀c:List Value,Enc.rd m c a→DW P B N ops piv non KK false π m H ((d,.agg c.toArray)::σ)) (hz:n=Enc.sz α:=by exact rfl) (hd:d<N:=by decide) (hnp:piv.contains i=false:=by rfl) (hfr:non.contains (i+100000)=false:=by rfl):DW P B N ops piv non KK false (.cons i π) m H σ:=G9 ho hg (A2s ca.h (hz▸cz.h) hx hp) hd k hnp hfr
theorem X'{α:Type}[Enc α][Inhabited α]{x y:Operand}{t e:TypeId}{v:Value}{L:List α}{z:Nat}(n:Nat)(hs:Sl m v L)(ho:ops[i]?=some ⟨some d,.indexAddr t x y,ty,pos,after,g⟩)(hg:M6 ops σ ⟨some d,.indexAddr t x y,ty,pos,after,g⟩=some true)[cu:TU P t (.slice e)][cz:TS P e z](hx:ev σ x=some v)(hy:ev σ y=some (.int .i64 (n:Int)))
 (k:∀p,At m p (gt L n)→DW P B N ops piv non KK false π m H ((d,.pointer (some p))::σ)) (h1:(n:Int)<L.length:=by omega) (hz:z=Enc.sz α:=by exact rfl) (hd:d<N:=by decide) (hnp:piv.contains i=false:=by rfl) (hfr:non.contains (i+100000)=false:=by rfl):DW P B N ops piv non KK false (.cons i π) m H σ:=G9 ho hg (A9p n cu.h (hz▸cz.h) hx hy hs h1) hd k hnp hfr
theorem W'(j:Nat){must:Bool}{x y:Operand}{t:TypeId}{b:Nat}{T':TypeId}{cs vs:List Value}{n:Nat}(ho:ops[i]?=some ⟨none,.store t x y,ty,pos,after,g⟩)(hg:M6 ops σ ⟨none,.store t x y,ty,pos,after,g⟩=some true)
 [cz:TS P t n] (hx:ev σ x=some (.pointer (some ⟨b,0,none⟩))) (hy:ev σ y=some (.agg vs.toArray)) (hH:B2 H j=some (blk b T' cs)) (k:DW P B N ops piv non KK false π m (H4 H j (blk b T' vs)) σ)
 (hp:piv.contains i=true:=by exact rfl) (hn:non.contains i=true:=by exact rfl) (hv:vs.length=n:=by exact rfl) (hl:cs.length=n:=by exact rfl) (h1:∀v∈vs,v.oneCell'=true:=by exact C4X):DW P B N ops piv non KK must (.cons i π) m H σ:=B3 ho hp hn hg (A7o cz.h hx hy hH h1 hv hl) k
theorem A7{w:World}{m0:Mem}{v u:Value}(hv:v=u):∀w',St ⟨w,[],m0⟩ m H w'→Ret ⟨w,[],m0⟩ (fun _ _ v'=>v'=u) (.returned v) w':=fun _ hs=>Ret.exact hs hv
theorem C5{w:World}{m0:Mem}{v:Value}{R:Mem→Value→Prop}(hv:R m v):∀w',St ⟨w,[],m0⟩ m H w'→Ret ⟨w,[],m0⟩ (fun m' _ v'=>R m' v') (.returned v) w':=fun _ hs=>C4J hs hv
theorem G0{v:Value}{R:Mem→List Ent→Value→Prop}(hv:R m H v):∀w',St B m H w'→Ret B R (.returned v) w':=fun _ hs=>B8 hs hv
theorem nx{G:Type}{μ:G→Nat}{mG:G→Mem}{HG:G→List Ent}{σG:G→B5}{F:G→Prop}{n:Nat}(g':G)(hF:F g')(hμ:μ g'<n)(hm:m=mG g':=by exact rfl)(hH:(HG g').Sublist H:=by exact A2f)
 (hσ:Sub (σG g') σ:=by exact A2g):WK N B m H σ fun a w=>∃g' Ds',F g'∧μ g'<n∧St B (mG g') (HG g'++marks Ds') w∧Env N Ds' (σG g') a:=WK.next g' hm hH hσ hF hμ
theorem mt{G:Type}{mG:G→Mem}{HG:G→List Ent}{σG:G→B5}{F:G→Prop}(g':G)(hF:F g')(hm:m=mG g':=by exact rfl)(hH:(HG g').Sublist H:=by exact A2f)
 (hσ:Sub (σG g') σ:=by exact A2g):WK N B m H σ fun a w=>∃g' Ds',F g'∧St B (mG g') (HG g'++marks Ds') w∧Env N Ds' (σG g') a:=C2W g' hm hH hσ hF
theorem fz{α:Type}[Enc α]{b:Nat}{T':TypeId}{cs:List Value}{x:α}{K:Act→World→Prop}(j:Nat)(hX:B.X=[])(hH:B2 H j=some (blk b T' cs))(hx:Enc.rd m cs x)(k:∀m',m.le m'→At m' ⟨b,0,none⟩ x→WK N B m' (Z4 H j) σ K):WK N B m H σ K:=A6A j hX hH hx k
theorem fx{α:Type}[Enc α]{b:Nat}{T':TypeId}{cs:List Value}{x:α}{K:Act→World→Prop}{H0 A C:List Ent}(n j:Nat)[h0:NH H H0][h1:TD H0 n A C](hX:B.X=B7 C)(hf:B2 A j=some (blk b T' cs))(hx:Enc.rd m cs x)(k:∀m',m.le m'→At m' ⟨b,0,none⟩ x→WK N B m' (Z4 A j++C) σ K):WK N B m H σ K:=B4P j A C hX (h0.h.trans h1.h) hf hx k
end
end Go.Kx
