import Derived.Test.YtooomcigmleneaaGreatT10W23
set_option linter.all false
namespace Go.Proofs.S10
open Go Go.Kx Go.Proofs.T10
def Fz(w:WeekT)(f:FiledT):Prop:=((Cl w.Base.Stations f.Station).2=0∧f.Week=w.Week∧BH f.Sheet.Paper=0)∧(DP f.Sheet.Paper f.Sheet.Trace f.Sheet.Blots=0∧Ar f.Sheet.Drum=0)∧((f.Sheet.Drum.Rates.length:Int)+1=f.Sheet.Paper.Columns∧GI f.Sheet.Pen=0∧(U0 f.Sheet.Drum f.Marks).1=0)
instance(w:WeekT)(f:FiledT):Decidable (Fz w f):=by unfold Fz;exact inferInstance
def Fk(w:WeekT)(r:ReadT):Prop:=(Cl w.Base.Stations r.Station).2=0∧r.Week=w.Week∧(0≤r.Tick∧r.Tick≤w.Base.Ticks)∧0≤r.Levels.Lo∧r.Levels.Lo≤r.Levels.Hi∧r.Levels.Hi≤12000
instance(w:WeekT)(r:ReadT):Decidable (Fk w r):=by unfold Fk;exact inferInstance
def Kb(w:WeekT):Prop:=DF w.Base.Wind=0∧(1≤w.Base.Ticks∧w.Base.Ticks≤400)∧(0≤w.Base.Term∧w.Base.Term≤w.Base.Ticks)∧(0≤w.Week∧w.Week≤10000)
instance(w:WeekT):Decidable (Kb w):=by unfold Kb;exact inferInstance
def Qq(w:WeekT)(i:Nat):Prop:=(0<i→(gt w.Sheets (i-1)).Station<(gt w.Sheets i).Station)∧Fz w (gt w.Sheets i)
instance(w:WeekT)(i:Nat):Decidable (Qq w i):=by unfold Qq;exact inferInstance
def Du(w:WeekT):Prop:=Kb w∧(w.Sheets.length≤64∧w.Reads.length≤64)∧(∀i,i<w.Sheets.length→Qq w i)∧(∀i,i<w.Reads.length→Fk w (gt w.Reads i))
instance(w:WeekT):Decidable (Du w):=by unfold Du;exact inferInstance
def AN(w:WeekT):Int:=if(K3 w.Base.Stations).1≠0 then(K3 w.Base.Stations).1 else if Du w then 0 else 70
theorem A7P{w:WeekT}(h:(K3 w.Base.Stations).1≠0):AN w=(K3 w.Base.Stations).1:=D' h
theorem FN{w:WeekT}(h:¬(K3 w.Base.Stations).1≠0)(h1:¬Du w):AN w=70:=by rw[AN,A' h,A' h1]
theorem A8J{w:WeekT}(h:¬(K3 w.Base.Stations).1≠0)(h1:Du w):AN w=0:=by rw[AN,A' h,D' h1]
theorem A4o{w:WeekT}(h:AN w=0):(K3 w.Base.Stations).1=0∧Du w:=by
 unfold AN at h;split at h
 ·contradiction
 ·split at h
  ·exact⟨by omega,by assumption⟩
  ·cases h
theorem A5O{l:List Station}{id:Int}(h:(Cl l id).2=0):0≤(Cl l id).1∧(Cl l id).1<l.length:=by
 unfold Cl at h⊢
 split at h
 ·contradiction
 ·rename_i h0
  rw[A' h0]
  split at h
  ·cases h
  ·rename_i h1
   rw[A' h1]
   refine⟨by omega,?_⟩
   show U3 (fun i=>(gt l i).ID=id) l.length<l.length
   have m:¬U3 (fun i=>(gt l i).ID=id) l.length<0:=h1
   apply Sj
   intro o
   have c:¬∃k,k<l.length∧(∀j,j<k→¬(gt l j).ID=id)∧(gt l k).ID=id:=by
    rintro⟨k,f,g,a⟩
    have:=W8 (p:=fun i=>(gt l i).ID=id) f g a
    omega
   have d:∀n,n≤l.length→∀j,j<n→¬(gt l j).ID=id:=by
    intro n
    induction n with
    |zero=>intro _ j b;omega
    |succ n ih=>
     intro q j b
     rcases Sc.1 b with h5|h5
     ·exact ih (by omega) j h5
     ·subst h5;exact fun a=>c ⟨j,by omega,ih (by omega),a⟩
   have:=W3 (p:=fun i=>(gt l i).ID=id) (d l.length (E' _))
   omega
def B6S(w:WeekT)(i:Nat):Station:=gt w.Base.Stations ((Cl w.Base.Stations (gt w.Sheets i).Station).1:Int).toNat
def stL(w:WeekT)(n:Nat):List Station:=D2 n (B6S w)
def lvL(w:WeekT)(c:List Course)(n:Nat):List Int:=D2 n (fun i=>gt (gt c i).Levels (w.Base.Term:Int).toNat)
def A8e(w:WeekT)(c:List Course)(i:Nat):Prop:=QL (JF w (gt w.Sheets i) (gt w.Sheets i).Station ⟨.slice none 0 0,rfl⟩) (gt c i)
instance(w:WeekT)(c:List Course)(i:Nat):Decidable (A8e w c i):=by unfold A8e;exact inferInstance
def B0h(w:WeekT)(c:List Course):Int:=(B6w w.Base.Wind (stL w w.Sheets.length) w.Week (lvL w c w.Sheets.length)).2
def A6o(w:WeekT)(c:List Course):Prop:=c.length=w.Sheets.length∧(∀i,i<w.Sheets.length→A8e w c i)∧B0h w c=0
instance(w:WeekT)(c:List Course):Decidable (A6o w c):=by unfold A6o;exact inferInstance
def QN(w:WeekT)(c:List Course):Prop:=c.length=w.Sheets.length∧(∀i,i<w.Sheets.length→RC (gt w.Sheets i).Sheet w.Base.Ticks (gt c i))∧B0h w c=0
instance(w:WeekT)(c:List Course):Decidable (QN w c):=by unfold QN;exact inferInstance
def A2G(w:WeekT)(c:List Course)(i k:Nat):Prop:=inP [(gt (gt w.Sheets i).Marks k).Ticks] (gt (gt c i).Ticks (gt (gt w.Sheets i).Marks k).Column.toNat)
instance(w:WeekT)(c:List Course)(i k:Nat):Decidable (A2G w c i k):=by unfold A2G;exact inferInstance
def A3u(w:WeekT)(c:List Course)(k i:Nat):Prop:=(gt w.Sheets i).Station=(gt w.Reads k).Station→inP [(gt w.Reads k).Levels] (gt (gt c i).Levels (gt w.Reads k).Tick.toNat)
instance(w:WeekT)(c:List Course)(k i:Nat):Decidable (A3u w c k i):=by unfold A3u;exact inferInstance
def A3c(w:WeekT)(c:List Course):Prop:=(∀i,i<w.Sheets.length→∀k,k<(gt w.Sheets i).Marks.length→A2G w c i k)∧(∀k,k<w.Reads.length→∀i,i<w.Sheets.length→A3u w c k i)
instance(w:WeekT)(c:List Course):Decidable (A3c w c):=by unfold A3c;exact inferInstance
def B5c(w:WeekT)(c:List Course):Prop:=QN w c∧A3c w c
instance(w:WeekT)(c:List Course):Decidable (B5c w c):=by unfold B5c;exact inferInstance
section
abbrev Mark:=T10.Mark
variable{w:WeekT}{c:List Course}
theorem A9Q{M:List ClaimT}{x:ClaimT}{p:Prop}(h:¬p):(M++[x]).length=0↔p:=⟨fun a=>by simp at a,fun a=>absurd a h⟩
end
def NK:List Int→Int
 | []=>0
 |x::r=>if x=0 then NK r else x
theorem A1o:∀{l:List Int} {k:Nat},k<l.length→(∀j,j<k→gt l j=0)→¬gt l k=0→NK l=gt l k
 | [],k,hk,_,_=>by simp at hk
 |x::r,0,_,_,h=>by rw[Bq]at h ⊢; rw[NK,A' h]
 |x::r,k+1,hk,ha,h=>by
  have h0:=ha 0 (by omega)
  rw[Bq]at h0
  rw[Ak]at h⊢
  rw[NK,D' h0]
  exact A1o (by simpa using hk) (fun j a=>by have:=ha (j+1) (by omega);rwa [Ak]at this) h
theorem A4r:∀{l:List Int},(∀j,j<l.length→gt l j=0)→NK l=0
 | [],_=>rfl
 |x::r,ha=>by
  have h0:=ha 0 (by simp)
  rw[Bq]at h0
  rw[NK,D' h0]
  exact A4r fun j a=>by have:=ha (j+1) (by simpa using a);rwa [Ak]at this
def Qp(a b:NName):Int:=NK [V7 a.Clerk b.Clerk,V7 a.Num b.Num]
abbrev I0(n:NoteT):NName:=⟨n.Clerk,n.Num⟩
def B6p(a b:NoteT):Int:=NK [V7 a.Day b.Day,V7 a.Clock b.Clock,Qp (I0 a) (I0 b)]
def rnP(n:NName):Prop:=(1≤n.Clerk∧n.Clerk≤8)∧(1≤n.Num∧n.Num≤400)
instance(n:NName):Decidable (rnP n):=by unfold rnP;exact inferInstance
def HU(s:Span)(lo hi:Int):Prop:=(lo≤s.Lo∧s.Lo≤s.Hi)∧s.Hi≤hi
instance(s:Span)(lo hi:Int):Decidable (HU s lo hi):=by unfold HU;exact inferInstance
def rmP(x:Mark):Prop:=(0≤x.Column∧x.Column≤199)∧HU x.Ticks 0 400
instance(x:Mark):Decidable (rmP x):=by unfold rmP;exact inferInstance
def NJ(b:BaseT)(st wk:Int):Prop:=(Cl b.Stations st).2=0∧0≤wk∧wk≤10000
instance(b:BaseT)(st wk:Int):Decidable (NJ b st wk):=by unfold NJ;exact inferInstance
def rrP(b:BaseT)(r:ReadT):Prop:=NJ b r.Station r.Week∧(0≤r.Tick∧r.Tick≤b.Ticks)∧HU r.Levels 0 12000
instance(b:BaseT)(r:ReadT):Decidable (rrP b r):=by unfold rrP;exact inferInstance
def Pw(b:BaseT):Prop:=((K3 b.Stations).1=0∧DF b.Wind=0)∧(1≤b.Ticks∧b.Ticks≤400)∧(0≤b.Term∧b.Term≤b.Ticks)∧(1≤b.Clerks∧b.Clerks≤8)
instance(b:BaseT):Decidable (Pw b):=by unfold Pw;exact inferInstance
def MM(b:BaseT):Int:=if Pw b then 0 else 100
theorem B0P{b:BaseT}(h:Pw b):MM b=0:=D' h
theorem B3k{b:BaseT}(h:¬Pw b):MM b=100:=A' h
def fbP(b:BaseT):Prop:=(b.Stations.length≤4∧b.Ticks≤8)∧∀i,i<b.Stations.length→(gt b.Stations i).Heights.length≤6
instance(b:BaseT):Decidable (fbP b):=by unfold fbP;exact inferInstance
def OD(x:Sheet):Prop:=(x.Trace.length≤12∧x.Blots.length≤8∧x.Drum.Rates.length≤5∧x.Drum.Stops.length≤4∧x.Pen.Band≤2∧wr (x.Pen.Zero.Hi-x.Pen.Zero.Lo)≤2)∧(∀i,i<x.Trace.length→(gt x.Trace i).Half≤2000)∧x.Paper.Height≤20000∧x.Paper.Pitch≤5000
instance(x:Sheet):Decidable (OD x):=by unfold OD;exact inferInstance
def A3z(l:List NoteT):Prop:=(∀i,i<l.length→OD (gt l i).Sheet)∧l.length≤40
instance(l:List NoteT):Decidable (A3z l):=by unfold A3z;exact inferInstance
def ssP(a b:Sheet):Prop:=a.Paper=b.Paper∧a.Trace=b.Trace∧a.Blots=b.Blots∧a.Drum.Rates=b.Drum.Rates∧a.Drum.Stops=b.Drum.Stops∧a.Pen=b.Pen
instance(a b:Sheet):Decidable (ssP a b):=by unfold ssP;exact inferInstance
def snP(a b:NoteT):Prop:=I0 a=I0 b∧a.Clock=b.Clock∧a.Day=b.Day∧a.Kind=b.Kind∧a.Station=b.Station∧a.Week=b.Week∧a.Mark=b.Mark∧a.Read=b.Read∧a.Height=b.Height∧a.Ref=b.Ref∧ssP a.Sheet b.Sheet
instance(a b:NoteT):Decidable (snP a b):=by unfold snP;exact inferInstance
def A8M(l:List Int)(v:Int):Int:=U3 (fun i=>v=gt l i) l.length
def QE(r:RegT)(st wk:Int):Int:=U3 (fun i=>(gt r.Sheets i).Station=st∧(gt r.Sheets i).Week=wk) r.Sheets.length
def RefOk(m:Mem)(r:RawV):Prop:=∃q,r.v= .pointer q∧(q.isNone=false→∃p n,q=some p∧At m p (n:NName))
theorem RefOk.mono{m m':Mem}{r:RawV}(h:RefOk m r)(hm:m.le m'):RefOk m' r:=by
 obtain⟨q,b,c⟩:=h
 exact⟨q,b,fun a=>by obtain⟨p,n,d,f⟩:=c a;exact⟨p,n,d,f.mono hm⟩⟩
theorem RefOk.no{m:Mem}{h:(Value.pointer none).oneCell'=true}:RefOk m ⟨.pointer none,h⟩:=⟨none,rfl,fun h=>by cases h⟩
theorem RefOk.yes{m:Mem}{p:Addr}{n:NName}{h:(Value.pointer (some p)).oneCell'=true}(ha:At m p n):RefOk m ⟨.pointer (some p),h⟩:=⟨some p,rfl,fun _=>⟨p,n,rfl,ha⟩⟩
def Ok5(m:Mem)(v:Value):Prop:=(∃c,∃x:SheetCt,v= .iface 448 (.agg c.toArray)∧Enc.rd m c x∧RefOk m x.filing.ref)∨(∃c,∃x:MarkCt,v= .iface 450 (.agg c.toArray)∧Enc.rd m c x)∨
 (∃c,∃x:ReadCt,v= .iface 452 (.agg c.toArray)∧Enc.rd m c x∧RefOk m x.ref)∨
 (∃c,∃x:FilingT,v= .iface 296 (.agg c.toArray)∧Enc.rd m c x∧RefOk m x.ref)∨(∃c,∃x:WithCt,v= .iface 456 (.agg c.toArray)∧Enc.rd m c x)
def OkC(m:Mem)(v:Value)(k:Int):Prop:=v= .nilIface∨(¬k=4∧Ok5 m v)∨(∃c,∃x:HeightCt,v= .iface 454 (.agg c.toArray)∧Enc.rd m c x)
theorem Ok5.mono{m m':Mem}{v:Value}(h:Ok5 m v)(hm:m.le m'):Ok5 m' v:=by
 rcases h with⟨c,x,h1,h2,h3⟩|⟨c,x,h1,h2⟩|⟨c,x,h1,h2,h3⟩|⟨c,x,h1,h2,h3⟩|⟨c,x,h1,h2⟩
 ·exact .inl ⟨c,x,h1,Enc.mono hm h2,h3.mono hm⟩
 ·exact .inr (.inl ⟨c,x,h1,Enc.mono hm h2⟩)
 ·exact .inr (.inr (.inl ⟨c,x,h1,Enc.mono hm h2,h3.mono hm⟩))
 ·exact .inr (.inr (.inr (.inl ⟨c,x,h1,Enc.mono hm h2,h3.mono hm⟩)))
 ·exact .inr (.inr (.inr (.inr ⟨c,x,h1,Enc.mono hm h2⟩)))
theorem OkC.mono{m m':Mem}{v:Value}{k:Int}(h:OkC m v k)(hm:m.le m'):OkC m' v k:=by
 rcases h with h|⟨h1,h2⟩|⟨c,x,h1,h2⟩
 ·exact .inl h
 ·exact .inr (.inl ⟨h1,h2.mono hm⟩)
 ·exact .inr (.inr ⟨c,x,h1,Enc.mono hm h2⟩)
theorem OkC.form{m:Mem}{v:Value}{k:Int}(h:OkC m v k):v= .nilIface∨∃d u,v= .iface d u:=by
 rcases h with h|⟨_,⟨c,x,h,_⟩|⟨c,x,h,_⟩|⟨c,x,h,_⟩|⟨c,x,h,_⟩|⟨c,x,h,_⟩⟩|⟨c,x,h,_⟩
 ·exact .inl h
 all_goals exact .inr ⟨_,_,h⟩
theorem A2k{b:BaseT}{st wk:Int}(h:NJ b st wk):0<b.Stations.length:=by have:=A5O h.1;omega
abbrev SB(k:Int)(b:BaseT)(_:Mem)(v:Value):Prop:=∃q:Bool,v= .bool q∧(q=true→k=4→0<b.Stations.length)
theorem MT{P:Program}{f:FuncId}{args:Array Value}{m:Mem}{k:Int}{b:BaseT}(hk:¬k=4)(h:Pure P f args m fun _ v=>∃q:Bool,v= .bool q):Pure P f args m (SB k b):=Pure.mono h fun _ _ _ ⟨q,h⟩=>⟨q,h,fun _ a=>absurd a hk⟩
theorem B3V{P:Program}{f:FuncId}{args:Array Value}{m:Mem}{k:Int}{b:BaseT}(h:Pure P f args m fun _ v=>∃q:Bool,v= .bool q∧(q=true→0<b.Stations.length)):Pure P f args m (SB k b):=Pure.mono h fun _ _ _ ⟨q,h,a⟩=>⟨q,h,fun c _=>a c⟩
end Go.Proofs.S10
