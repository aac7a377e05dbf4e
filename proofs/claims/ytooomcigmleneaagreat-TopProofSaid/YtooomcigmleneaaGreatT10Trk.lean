import Derived.Test.YtooomcigmleneaaGreatT10SSpec2
set_option linter.all false
namespace Go.Proofs.T10
open Go Go.Kx
def V9(x y:Span):Span:=⟨max x.Lo y.Lo,min x.Hi y.Hi⟩
def F5:List Span→List Span→List Span
 | [],_=>[]
 |_::_,[]=>[]
 |x::a,y::b=>
  if(V9 x y).Lo≤(V9 x y).Hi then V9 x y::(if x.Hi<y.Hi then F5 a (y::b)else F5 (x::a) b)
  else if x.Hi<y.Hi then F5 a (y::b)else F5 (x::a) b
termination_by a b=>a.length+b.length
theorem A7c{s:Span}{r:List Span}(h:s.Lo≤s.Hi)(hr:Can r)(ha:∀n,I3 r n→s.Hi+1<n):Can (s::r):=by
 cases r with
 |nil=>exact h
 |cons t r=>exact⟨h,ha t.Lo (P3.2 (.inl ⟨Si _,hr.head⟩)),hr⟩
theorem PS(n:Nat):∀a b:List Span,a.length+b.length=n→Can a→Can b→Can (F5 a b)∧∀x,I3 (F5 a b) x↔I3 a x∧I3 b x:=by
 induction n using Nat.strongRecOn with
 |ind n ih=>
  intro a b k l m
  match a,b with
  | [],b=>rw[F5];exact⟨trivial,fun x=>⟨fun h=>absurd h (W4 x),fun h=>absurd h.1 (W4 x)⟩⟩
  |x::a,[]=>rw[F5];exact⟨trivial,fun x=>⟨fun h=>absurd h (W4 x),fun h=>absurd h.2 (W4 x)⟩⟩
  |x::a,y::b=>
   have t:=l.head
   have u:=m.head
   have aa:=CW l
   have ab:=CW m
   have o:∀n,I3 (x::a) n↔(x.Lo≤n∧n≤x.Hi)∨I3 a n:=fun n=>P3
   have p:∀n,I3 (y::b) n↔(y.Lo≤n∧n≤y.Hi)∨I3 b n:=fun n=>P3
   have main:∀r,(Can r∧if x.Hi<y.Hi then∀n,I3 r n↔I3 a n∧I3 (y::b) n else∀n,I3 r n↔I3 (x::a) n∧I3 b n)→
    Can (if(V9 x y).Lo≤(V9 x y).Hi then V9 x y::r else r)∧∀n,I3 (if(V9 x y).Lo≤(V9 x y).Hi then V9 x y::r else r) n↔I3 (x::a) n∧I3 (y::b) n:=by
    rintro r ⟨s,f⟩
    have q:∀n,((V9 x y).Lo≤n∧n≤(V9 x y).Hi)↔(x.Lo≤n∧n≤x.Hi)∧(y.Lo≤n∧n≤y.Hi):=fun n=>by unfold V9;dsimp only;omega
    have d:∀n,I3 (x::a) n∧I3 (y::b) n↔((V9 x y).Lo≤n∧n≤(V9 x y).Hi)∨I3 r n:=by
     intro n
     rw[q n]
     split at f
     ·rw[f n,o n]
      constructor
      ·rintro⟨c|c,g⟩
       ·rcases(p n).1 g with h3|h3
        ·exact .inl ⟨c,h3⟩
        ·have:=ab n h3;omega
       ·exact .inr ⟨c,g⟩
      ·rintro(c|c)
       ·exact⟨.inl c.1,(p n).2 (.inl c.2)⟩
       ·exact⟨.inr c.1,c.2⟩
     ·rw[f n,p n]
      constructor
      ·rintro⟨c,g|g⟩
       ·rcases(o n).1 c with h3|h3
        ·exact .inl ⟨h3,g⟩
        ·have:=aa n h3;omega
       ·exact .inr ⟨c,g⟩
      ·rintro(c|c)
       ·exact⟨(o n).2 (.inl c.1),.inl c.2⟩
       ·exact⟨c.1,.inr c.2⟩
    split
    ·rename_i hs
     refine⟨A7c hs s fun n k=>?_,fun n=>by rw[P3];exact(d n).symm⟩
     have v:(V9 x y).Hi≤x.Hi∧(V9 x y).Hi≤y.Hi:=by unfold V9;dsimp only;omega
     split at f
     ·have:=aa n ((f n).1 k).1;omega
     ·have:=ab n ((f n).1 k).2;omega
    ·rename_i hs
     exact⟨s,fun n=>((d n).trans ⟨fun h=>h.elim (fun h=>absurd (TX h.1 h.2) hs) id,.inr⟩).symm⟩
   have h:=main (if x.Hi<y.Hi then F5 a (y::b)else F5 (x::a) b) (by
    split
    ·exact ih _ (by simp at k ⊢; omega) a (y::b) rfl l.tail m
    ·exact ih _ (by simp at k ⊢; omega) (x::a) b rfl l m.tail)
   rw[F5]
   exact h
theorem Jn{a b:List Span}(ha:Can a)(hb:Can b):Can (F5 a b):=(PS _ a b rfl ha hb).1
theorem Gk{a b:List Span}(ha:Can a)(hb:Can b)(x:Int):I3 (F5 a b) x↔I3 a x∧I3 b x:=(PS _ a b rfl ha hb).2 x
theorem EC:∀(n:Nat) (a b:List Span),a.length+b.length=n→(F5 a b).length≤n:=by
 intro n
 induction n using Nat.strongRecOn with
 |ind n ih=>
  intro a b c
  match a,b with
  | [],b=>rw[F5];exact EF _
  |x::a,[]=>rw[F5];exact EF _
  |x::a,y::b=>
   have d:=ih (n-1) (by simp at c;omega) a (y::b) (by simp at c ⊢; omega)
   have f:=ih (n-1) (by simp at c;omega) (x::a) b (by simp at c ⊢; omega)
   have g:0<n:=by simp at c;omega
   rw[F5]
   split <;> split <;> (try simp only[N']) <;> omega
theorem A3G{a b:List Span}{i k y:Nat}(h:(F5 a b).drop y=F5 (a.drop i) (b.drop k))(hi:i<a.length)(hk:k<b.length):
 (if(V9 (gt a i) (gt b k)).Lo≤(V9 (gt a i) (gt b k)).Hi then y<(F5 a b).length∧gt (F5 a b) y=V9 (gt a i) (gt b k)∧(F5 a b).drop (y+1)=(if(gt a i).Hi<(gt b k).Hi then F5 (a.drop (i+1)) (b.drop k)else F5 (a.drop i) (b.drop (k+1)))
  else(F5 a b).drop y=(if(gt a i).Hi<(gt b k).Hi then F5 (a.drop (i+1)) (b.drop k)else F5 (a.drop i) (b.drop (k+1)))):=by
 have ea:a.drop i=gt a i::a.drop (i+1):=by rw[Tt hi];simp[gt,List.getD,hi]
 have eb:b.drop k=gt b k::b.drop (k+1):=by rw[Tt hk];simp[gt,List.getD,hk]
 rw[ea,eb,F5,←ea,←eb]at h
 split at h
 ·rename_i h1
  rw[D' h1]
  have c:y<(F5 a b).length:=by
   apply Nat.lt_of_not_le
   intro d
   rw[SV d]at h
   cases h
  rw[Tt c]at h
  have f:=List.cons.inj h
  exact⟨c,by rw[←f.1];simp[gt,List.getD,c],f.2⟩
 ·rename_i h1
  rw[A' h1]
  exact h
theorem Pb{a b:List Span}{i k y:Nat}(h:(F5 a b).drop y=F5 (a.drop i) (b.drop k))(hy:y≤(F5 a b).length)(he:¬(i<a.length∧k<b.length)):y=(F5 a b).length:=by
 have c:F5 (a.drop i) (b.drop k)=[]:=by
  by_cases hi:i<a.length
  ·have:b.drop k=[]:=SV (by omega)
   rw[this]
   cases a.drop i <;> rw[F5]
  ·rw[SV (by omega)];rw[F5]
 rw[c,List.drop_eq_nil_iff]at h
 omega
def Aj(l:List Span)(c:Span):List Span:=l.map fun s=>⟨s.Lo+c.Lo,s.Hi+c.Hi⟩
theorem LA{l:List Span}{c:Span}(hl:∀s∈l,s.Lo≤s.Hi)(hc:c.Lo≤c.Hi)(x:Int):I3 (Aj l c) x↔∃y,I3 l y∧c.Lo≤x-y∧x-y≤c.Hi:=by
 constructor
 ·rintro⟨s,d,h⟩
  obtain⟨r,a,rfl⟩:=Sh.1 d
  have b:=hl r a
  dsimp only at h
  by_cases f:x-c.Lo≤r.Hi
  ·exact⟨x-c.Lo,⟨r,a,by omega,f⟩,by omega,by omega⟩
  ·exact⟨r.Hi,⟨r,a,b,Si _⟩,by omega,by omega⟩
 ·rintro⟨y,⟨r,a,h⟩,b,g⟩
  exact⟨_,Sh.2 ⟨r,a,rfl⟩,by dsimp only;omega⟩
theorem A1F(l:List Span)(c:Span):D2 l.length (fun q=>Span.mk ((gt l q).Lo+c.Lo) ((gt l q).Hi+c.Hi))=Aj l c:=by
 apply SG
 intro j
 unfold D2 Aj
 by_cases a:j<l.length
 ·simp[a,gt,List.getD]
 ·simp[a]
structure TStp where
 f:Nat
 t:Nat
 s:Span
instance:Inhabited TStp:=⟨⟨0,0,⟨0,0⟩⟩⟩
def By(l:List NodeT):Nat→List TStp
 |0=>[]
 |n+1=>By l n++D2 (gt l n).Next.length (fun j=>⟨n,(gt (gt l n).Next j).To.toNat,(gt (gt l n).Next j).Change⟩)
def H9(l:List NodeT):List TStp:=By l l.length
def EK(l:List NodeT):List TStp:=(H9 l).map fun h=>⟨h.t,h.f,⟨-h.s.Hi,-h.s.Lo⟩⟩
theorem QI{l:List NodeT}{h:TStp}:∀{n:Nat},h∈By l n↔∃k j,k<n∧j<(gt l k).Next.length∧h=⟨k,(gt (gt l k).Next j).To.toNat,(gt (gt l k).Next j).Change⟩
 |0=>⟨fun h=>(by cases h),fun⟨_,_,hk,_⟩=>absurd hk (R' _)⟩
 |n+1=>by
  rw[By,Sa,QI]
  constructor
  ·rintro(⟨k,j,hk,hj,rfl⟩|hm)
   ·exact⟨k,j,by omega,hj,rfl⟩
   ·unfold D2 at hm
    obtain⟨j,hj,rfl⟩:=Sh.1 hm
    exact⟨n,j,by omega,SS.1 hj,rfl⟩
  ·rintro⟨k,j,hk,hj,rfl⟩
   by_cases a:k=n
   ·subst a
    refine .inr ?_
    unfold D2
    exact Sh.2 ⟨j,SS.2 hj,rfl⟩
   ·exact .inl ⟨k,j,by omega,hj,rfl⟩
theorem A0h{l:List NodeT}{h:TStp}:h∈H9 l↔∃k j,k<l.length∧j<(gt l k).Next.length∧h=⟨k,(gt (gt l k).Next j).To.toNat,(gt (gt l k).Next j).Change⟩:=QI
theorem A9i(l:List NodeT){a b:Nat}(h:a≤b):∃r,By l b=By l a++r:=by
 induction h with
 |refl=>exact⟨[],(SO _).symm⟩
 |step _ ih=>obtain⟨r,e⟩:=ih;exact⟨r++_,by rw[By,e,Se]⟩
theorem B2I{l:List NodeT}{n j:Nat}(hn:n<l.length)(hj:j<(gt l n).Next.length):(By l n).length+j<(H9 l).length∧gt (H9 l) ((By l n).length+j)=⟨n,(gt (gt l n).Next j).To.toNat,(gt (gt l n).Next j).Change⟩:=by
 obtain⟨r,e⟩:=A9i l (show n+1≤l.length from hn)
 have a:H9 l=By l n++(D2 (gt l n).Next.length (fun j=>(⟨n,(gt (gt l n).Next j).To.toNat,(gt (gt l n).Next j).Change⟩:TStp))++r):=by
  show By l l.length=_
  rw[e,By,Se]
 have b:(D2 (gt l n).Next.length (fun j=>(⟨n,(gt (gt l n).Next j).To.toNat,(gt (gt l n).Next j).Change⟩:TStp))).length=(gt l n).Next.length:=B5 _ _
 constructor
 ·rw[a,F',F',b];omega
 ·have c:(H9 l)[(By l n).length+j]?=some (⟨n,(gt (gt l n).Next j).To.toNat,(gt (gt l n).Next j).Change⟩:TStp):=by
   rw[a,SL (by omega),Uf,SK (by rw[b];exact hj)]
   simp[D2,hj]
  simp[gt,List.getD,c]
theorem LM(l:List NodeT):(EK l).length=(H9 l).length:=Um ..
theorem B2q{l:List NodeT}{i:Nat}(h:i<(H9 l).length):gt (EK l) i=⟨(gt (H9 l) i).t,(gt (H9 l) i).f,⟨-(gt (H9 l) i).s.Hi,-(gt (H9 l) i).s.Lo⟩⟩:=by
 unfold EK
 simp[gt,List.getD,h]
def Lx(L:List TStp):Nat→Mem→Array Value→Prop:=fun i _ a=>a=#[.agg [J ((gt L i).f:Int),J ((gt L i).t:Int)].toArray,.agg [J (gt L i).s.Lo,J (gt L i).s.Hi].toArray]
def Mc(S M:List (List Span))(h:TStp):List (List Span):=M.set h.t (gt M h.t++Aj (gt S h.f) h.s)
def J1(S:List (List Span))(L:List TStp)(nn:Nat):Nat→List (List Span)
 |0=>List.replicate nn []
 |i+1=>Mc S (J1 S L nn i) (gt L i)
def FA(M:List (List Span))(nd:List NodeT)(n:Nat):List (List Span):=D2 n (fun i=>F5 (K4 (gt M i)) (gt nd i).Allowed)++M.drop n
def OQ(S:List (List Span))(L:List TStp)(nd:List NodeT):List (List Span):=FA (J1 S L nd.length L.length) nd nd.length
def K1(first:List (List Span))(nd:Nat→List NodeT)(st:Nat→List TStp):Nat→List (List Span)
 |0=>first
 |k+1=>OQ (K1 first nd st k) (st k) (nd (k+1))
theorem J3(S:List (List Span))(L:List TStp)(nn:Nat):∀i,(J1 S L nn i).length=nn
 |0=>Tf ..
 |i+1=>by rw[J1,Mc,I',J3 S L nn i]
theorem A0q{M:List (List Span)}{nd:List NodeT}{n:Nat}(h:n≤M.length):(FA M nd n).length=M.length:=by
 unfold FA;rw[F',B5,SE];omega
theorem A0b(S:List (List Span))(L:List TStp)(nd:List NodeT):(OQ S L nd).length=nd.length:=by
 unfold OQ;rw[A0q (by rw[J3];exact E' _),J3]
theorem A1Y(S:List (List Span))(L:List TStp)(nd:List NodeT){n:Nat}(h:n<nd.length):gt (OQ S L nd) n=F5 (K4 (gt (J1 S L nd.length L.length) n)) (gt nd n).Allowed:=by
 unfold OQ FA
 rw[SV (by rw[J3];exact E' _),SO,N7 _ h]
theorem KS{S:List (List Span)}{L:List TStp}{nn n:Nat}(hn:n<nn)(s:Span):∀i,i≤L.length→(s∈gt (J1 S L nn i) n↔∃j,j<i∧(gt L j).t=n∧s∈Aj (gt S (gt L j).f) (gt L j).s)
 |0,_=>by
  have:gt (J1 S L nn 0) n=[]:=by rw[J1];simp[gt,List.getD,hn]
  rw[this]
  exact⟨fun h=>(by cases h),fun⟨_,h,_⟩=>absurd h (R' _)⟩
 |i+1,hi=>by
  have ih:=KS (S:=S) (L:=L) hn s i (by omega)
  rw[J1,Mc]
  by_cases b:(gt L i).t=n
  ·have e:gt ((J1 S L nn i).set (gt L i).t (gt (J1 S L nn i) (gt L i).t++Aj (gt S (gt L i).f) (gt L i).s)) n=gt (J1 S L nn i) n++Aj (gt S (gt L i).f) (gt L i).s:=by
    rw[b,Fu _ _ (by rw[J3];exact hn),D' rfl]
   rw[e,Sa,ih]
   constructor
   ·rintro(⟨j,c,h⟩|h)
    ·exact⟨j,by omega,h⟩
    ·exact⟨i,by omega,b,h⟩
   ·rintro⟨j,c,h⟩
    by_cases a:j=i
    ·subst a;exact .inr h.2
    ·exact .inl ⟨j,by omega,h⟩
  ·have e:gt ((J1 S L nn i).set (gt L i).t (gt (J1 S L nn i) (gt L i).t++Aj (gt S (gt L i).f) (gt L i).s)) n=gt (J1 S L nn i) n:=by
    rw[Fu _ _ (by rw[J3];exact hn),A' b]
   rw[e,ih]
   constructor
   ·rintro⟨j,c,h⟩;exact⟨j,by omega,h⟩
   ·rintro⟨j,c,h⟩
    by_cases a:j=i
    ·subst a;exact absurd h.1 b
    ·exact⟨j,by omega,h⟩
def CR(l:List Span):Prop:=Can l∧∀s∈l,0≤s.Lo∧s.Hi≤12000
theorem BJ{l:List Span}(h:CR l):l.length≤6001:=by
 by_cases a:l=[]
 ·rw[a];exact EF _
 ·have:=NU h.1 (fun s b=>h.2 s b) (List.length_pos_iff.2 a)
  omega
theorem Gs{a b:List Span}(ha:Can a)(hb:CR b):CR (F5 a b):=by
 refine⟨Jn ha hb.1,fun s c=>?_⟩
 have d:=Z3 (Jn ha hb.1) s c
 have f:=((Gk ha hb.1 s.Lo).1 ⟨s,c,Si _,d⟩).2
 have g:=((Gk ha hb.1 s.Hi).1 ⟨s,c,d,Si _⟩).2
 obtain⟨r,k,m⟩:=f
 obtain⟨q,l,n⟩:=g
 have:=hb.2 r k
 have:=hb.2 q l
 omega
theorem QF{l:List Span}{c:Span}(hl:CR l)(hc: -100000≤c.Lo∧c.Lo≤c.Hi∧c.Hi≤100000):Aq (Aj l c):=fun s b=>by
 obtain⟨r,a,rfl⟩:=Sh.1 b
 have d:=hl.2 r a
 have f:=Z3 hl.1 r a
 dsimp only;omega
theorem LE{l:List Span}(h:Ik l):Can l:=by
 have key:∀n,n≤l.length→Can (l.drop (l.length-n)):=by
  intro n
  induction n with
  |zero=>intro _;rw[Ts,SV (E' _)];trivial
  |succ n ih=>
   intro m
   have c:=ih (by omega)
   have hi:l.length-(n+1)<l.length:=by omega
   have e:l.drop (l.length-(n+1))=gt l (l.length-(n+1))::l.drop (l.length-n):=by
    rw[Tt hi,show l.length-(n+1)+1=l.length-n by omega];simp[gt,List.getD,hi]
   have d:=h _ hi
   rw[e]
   cases hr:l.drop (l.length-n)with
   |nil=>exact d.2.1
   |cons t r=>
    have a:l.length-n<l.length:=by
     apply Nat.lt_of_not_le;intro b;rw[SV b]at hr;cases hr
    have f:t=gt l (l.length-n):=by
     rw[Tt a]at hr
     rw[←(List.cons.inj hr).1];simp[gt,List.getD,a]
    have g:=h _ a
    have k:Dw l (l.length-n)=(gt l (l.length-(n+1))).Hi:=by
     rw[show l.length-n=(l.length-(n+1))+1 by omega];rfl
    rw[hr]at c
    refine⟨d.2.1,?_,c⟩
    rw[f];omega
 have:=key l.length (E' _)
 rwa [SY,Ul]at this
theorem Ji{l:List Span}(h:Ik l)(hb:∀s∈l,0≤s.Lo∧s.Hi≤12000):CR l:=⟨LE h,hb⟩
theorem Mw{l:List Span}(h:Can l):l≠[]↔∃x,I3 l x:=by
 constructor
 ·intro b
  cases l with
  |nil=>exact absurd rfl b
  |cons s r=>exact⟨s.Lo,P3.2 (.inl ⟨Si _,h.head⟩)⟩
 ·rintro⟨x,a⟩ rfl
  exact W4 x a
def Ai(c:Span):Prop:= -100000≤c.Lo∧c.Lo≤c.Hi∧c.Hi≤100000
structure SeenOk(N:Nat)(nd:Nat→List NodeT)(st:Nat→List TStp):Prop where
 node:∀k,k<N→(nd k).length≤4000∧∀n,n<(nd k).length→CR (gt (nd k) n).Allowed∧(gt (nd k) n).Allowed.length≤64
 step:∀k,k+1<N→(st k).length≤256000∧∀h∈st k,h.f<(nd k).length∧h.t<(nd (k+1)).length∧Ai h.s
def AM(S:List (List Span)):Prop:=∀n,n<S.length→CR (gt S n)
theorem Fq{S:List (List Span)}{L:List TStp}{nn:Nat}(hS:AM S)(hL:∀h∈L,h.f<S.length∧h.t<nn∧Ai h.s):∀i,i≤L.length→∀n,n<nn→Aq (gt (J1 S L nn i) n)∧(gt (J1 S L nn i) n).length≤i*6001
 |0,_,n,hn=>by
  have:gt (J1 S L nn 0) n=[]:=by rw[J1];simp[gt,List.getD,hn]
  rw[this];exact⟨JR,EF _⟩
 |i+1,hi,n,hn=>by
  have ih:=Fq hS hL i (by omega) n hn
  have a:=hL (gt L i) (M0 (by omega))
  have b:=hS _ a.1
  rw[J1,Mc,Fu _ _ (by rw[J3];exact hn)]
  split
  ·rename_i ht
   rw[ht]
   refine⟨JK ih.1 (QF b a.2.2),?_⟩
   have c:=BJ b
   rw[F']
   have d:(Aj (gt S (gt L i).f) (gt L i).s).length=(gt S (gt L i).f).length:=Um ..
   rw[TH];omega
  ·exact⟨ih.1,by rw[TH];omega⟩
theorem DM{l:List Span}(h:CR l):∀q,q<l.length→(-200000≤(gt l q).Lo∧(gt l q).Lo≤200000)∧(-200000≤(gt l q).Hi∧(gt l q).Hi≤200000):=fun q a=>by
 have b:=h.2 _ (M0 a)
 have c:=Z3 h.1 _ (M0 a)
 omega
theorem DN(l:List Span)(c:Span):(Aj l c).length=l.length:=Um ..
theorem A4A{S:List (List Span)}{L:List TStp}{nn:Nat}(hS:AM S)(hL:∀h∈L,h.f<S.length∧h.t<nn∧Ai h.s)(hn:L.length≤256000):∀l∈J1 S L nn L.length,l.length≤C7:=fun l a=>by
 obtain⟨i,hi,rfl⟩:=Z6 a
 rw[J3]at hi
 have:=(Fq hS hL _ (E' _) i hi).2
 unfold C7;omega
theorem B2C{M:List (List Span)}{nd:List NodeT}{n i:Nat}(h:n≤i)(hi:i<M.length):gt (FA M nd n) i=gt M i:=by
 unfold FA
 simp only[gt,List.getD]
 rw[SL (by rw[B5];exact h),B5,Tl,Nat.add_sub_cancel' h]
theorem A8n{M:List (List Span)}{nd:List NodeT}{n:Nat}(h:n<M.length):(FA M nd n).set n (F5 (K4 (gt M n)) (gt nd n).Allowed)=FA M nd (n+1):=by
 unfold FA
 rw[O9,Tt h,UI _ _ (by rw[B5];exact E' _),B5,SY,List.set_cons_zero,Se]
 rfl
section
variable{N:Nat}{nd:Nat→List NodeT}{st:Nat→List TStp}(hok:SeenOk N nd st){first:List (List Span)}
include hok
theorem A5T{S:List (List Span)}{k:Nat}(hk:k+1<N)(hS:AM S)(hl:S.length=(nd k).length):AM (OQ S (st k) (nd (k+1))):=fun n a=>by
 rw[A0b]at a
 rw[A1Y _ _ _ a]
 have c:=Fq hS (L:=st k) (nn:=(nd (k+1)).length) (fun h b=>by have:=(hok.step k hk).2 h b;rw[hl];exact this) _ (E' _) n a
 exact Gs (EW (AW c.1)) ((hok.node (k+1) hk).2 n a).1
theorem FF(hf:AM first)(hl:first.length=(nd 0).length):∀k,k<N→AM (K1 first nd st k)∧(K1 first nd st k).length=(nd k).length
 |0,_=>⟨hf,hl⟩
 |k+1,hk=>by
  have ih:=FF hf hl k (by omega)
  exact⟨A5T hok hk ih.1 ih.2,A0b ..⟩
theorem A1g(hf:AM first)(hl:first.length=(nd 0).length){k:Nat}(hk:k+1<N){n:Nat}(hn:n<(nd (k+1)).length)(x:Int):
 I3 (gt (K1 first nd st (k+1)) n) x↔I3 (gt (nd (k+1)) n).Allowed x∧∃h∈st k,h.t=n∧∃y,I3 (gt (K1 first nd st k) h.f) y∧h.s.Lo≤x-y∧x-y≤h.s.Hi:=by
 have ih:=FF hok hf hl k (by omega)
 have c:=(hok.step k hk).2
 have q:=Fq ih.1 (L:=st k) (nn:=(nd (k+1)).length) (fun h b=>by rw[ih.2];exact c h b) _ (E' _) n hn
 rw[K1,A1Y _ _ _ hn,Gk (EW (AW q.1)) ((hok.node (k+1) hk).2 n hn).1.1,HR (AW q.1),and_comm]
 refine Uz fun _=>?_
 constructor
 ·rintro⟨s,g,l⟩
  obtain⟨j,m,o,r⟩:=(KS hn s _ (E' _)).1 g
  have a:gt (st k) j∈st k:=M0 m
  have b:=c _ a
  have d:=ih.1 _ (by rw[ih.2];exact b.1)
  obtain⟨y,p⟩:=(LA (Z3 d.1) b.2.2.2.1 x).1 ⟨s,r,l⟩
  exact⟨_,a,o,y,p⟩
 ·rintro⟨h,a,o,y,p⟩
  obtain⟨j,m,rfl⟩:=Z6 a
  have b:=c _ a
  have d:=ih.1 _ (by rw[ih.2];exact b.1)
  obtain⟨s,g,l⟩:=(LA (Z3 d.1) b.2.2.2.1 x).2 ⟨y,p⟩
  exact⟨s,(KS hn s _ (E' _)).2 ⟨j,m,o,g⟩,l⟩
end
def F7(l:List NodeT):List (List Span):=D2 l.length (fun n=>(gt l n).Allowed)
theorem II{l:List NodeT}{n:Nat}(h:n<l.length):gt (F7 l) n=(gt l n).Allowed:=N7 _ h
theorem CC{l:List NodeT}(h:∀n,n<l.length→CR (gt l n).Allowed):AM (F7 l):=fun n b=>by
 have a:n<l.length:=by unfold F7 at b;rwa [B5]at b
 rw[II a];exact h n a
abbrev H8:=List (List NodeT)
def Qv(next:Nat)(e:EdgeT):Prop:=(0≤e.To∧e.To<next)∧Ai e.Change
instance(c:Span):Decidable (Ai c):=by unfold Ai;exact inferInstance
instance(next:Nat)(e:EdgeT):Decidable (Qv next e):=by unfold Qv;exact inferInstance
def Qx(next:Nat)(x:NodeT):Prop:=I7 x.Allowed∧x.Next.length≤64∧∀j,j<x.Next.length→Qv next (gt x.Next j)
instance(next:Nat)(x:NodeT):Decidable (Qx next x):=by unfold Qx;exact inferInstance
def A2S(l:List NodeT)(next:Nat):Prop:=(1≤l.length∧l.length≤4000)∧∀n,n<l.length→Qx next (gt l n)
instance(l:List NodeT)(next:Nat):Decidable (A2S l next):=by unfold A2S;exact inferInstance
def Em(t:H8)(k:Nat):Nat:=if k+1<t.length then(gt t (k+1)).length else 0
def Ol(t:H8):Prop:=(1≤t.length∧t.length≤401)∧∀k,k<t.length→A2S (gt t k) (Em t k)
instance(t:H8):Decidable (Ol t):=by unfold Ol;exact inferInstance
def B3o(t:H8):Prop:=∀k,k<t.length→∀n,n<(gt t k).length→∀s∈(gt (gt t k) n).Allowed,0≤s.Lo∧s.Hi≤12000
def O1(t:H8):Prop:=Ol t∧B3o t
theorem Is{t:H8}{k:Nat}(h:k+1<t.length):Em t k=(gt t (k+1)).length:=D' h
theorem A3K{t:H8}(_:0<t.length):(0:Int)=(Em t (t.length-1-0):Int):=by
 rw[Em,A' (by omega)];rfl
theorem A3I{t:H8}{i:Nat}(h:i+1<t.length):((gt t (t.length-1-i)).length:Int)=(Em t (t.length-1-(i+1)):Int):=by
 rw[Is (by omega),show t.length-1-(i+1)+1=t.length-1-i by omega]
theorem QY{l:List NodeT}(h:∀n,n<l.length→(gt l n).Next.length≤64):∀n,n≤l.length→(By l n).length≤n*64
 |0,_=>E' _
 |n+1,hn=>by
  have h1:=QY h n (by omega)
  have a:=h n (by omega)
  rw[By,F',B5,TH];omega
theorem Gd{t:H8}(hq:O1 t){k:Nat}(hk:k+1<t.length):(H9 (gt t k)).length≤256000∧∀h∈H9 (gt t k),h.f<(gt t k).length∧h.t<(gt t (k+1)).length∧Ai h.s:=by
 have b:=hq.1.2 k (by omega)
 rw[Is hk]at b
 constructor
 ·have:=QY (fun n a=>(b.2 n a).2.1) (gt t k).length (E' _)
  have:=b.1
  unfold H9;omega
 ·intro s g
  obtain⟨n,j,a,d,rfl⟩:=A0h.1 g
  have c:=(b.2 n a).2.2 j d
  exact⟨a,by have:=c.1;dsimp only;omega,c.2⟩
theorem AA{t:H8}(hq:O1 t){k:Nat}(hk:k<t.length):(gt t k).length≤4000∧∀n,n<(gt t k).length→CR (gt (gt t k) n).Allowed∧(gt (gt t k) n).Allowed.length≤64:=
 ⟨(hq.1.2 k hk).1.2,fun n a=>⟨Ji ((hq.1.2 k hk).2 n a).1.2 (hq.2 k hk n a),((hq.1.2 k hk).2 n a).1.1⟩⟩
def ndA(t:H8)(k:Nat):List NodeT:=gt t k
def stA(t:H8)(k:Nat):List TStp:=H9 (gt t k)
def KM(t:H8)(k:Nat):List NodeT:=gt t (t.length-1-k)
def stB(t:H8)(k:Nat):List TStp:=EK (gt t (t.length-2-k))
theorem A3N{t:H8}(hq:O1 t):SeenOk t.length (ndA t) (stA t):=⟨fun _ a=>AA hq a,fun _ a=>Gd hq a⟩
theorem A4k{t:H8}(hq:O1 t):SeenOk t.length (KM t) (stB t):=by
 refine⟨fun k c=>AA hq (by omega),fun k c=>?_⟩
 have f:t.length-2-k+1=t.length-1-k:=by omega
 have g:t.length-1-(k+1)=t.length-2-k:=by omega
 have a:=Gd hq (k:=t.length-2-k) (by omega)
 rw[f]at a
 unfold stB KM EK
 rw[g]
 refine⟨by rw[Um];exact a.1,fun s d=>?_⟩
 obtain⟨r,l,rfl⟩:=Sh.1 d
 have b:=a.2 r l
 have m:=b.2.2
 exact⟨b.2.1,b.1,by unfold Ai at *; dsimp only;omega⟩
def Q0(t:H8):Nat→List (List Span):=K1 (F7 (gt t 0)) (ndA t) (stA t)
def FQ(t:H8):Nat→List (List Span):=K1 (F7 (KM t 0)) (KM t) (stB t)
theorem W7{t:H8}(hq:O1 t){k:Nat}(hk:k<t.length):AM (Q0 t k)∧(Q0 t k).length=(gt t k).length:=
 FF (A3N hq) (CC fun n a=>((AA hq (k:=0) (by omega)).2 n a).1) (B5 _ _) k hk
theorem Ib{t:H8}(hq:O1 t){k:Nat}(hk:k<t.length):AM (FQ t k)∧(FQ t k).length=(gt t (t.length-1-k)).length:=
 FF (A4k hq) (CC fun n a=>((AA hq (k:=t.length-1) (by omega)).2 n a).1) (B5 _ _) k hk
def OO(t:H8)(k n:Nat)(x:Int):Prop:=I3 (gt (Q0 t k) n) x
def LW(t:H8)(k n:Nat)(x:Int):Prop:=I3 (gt (FQ t (t.length-1-k)) n) x
def Py(t:H8)(k n:Nat):List Span:=(gt (gt t k) n).Allowed
theorem LQ{t:H8}{n:Nat}(hn:n<(gt t 0).length)(x:Int):OO t 0 n x↔I3 (Py t 0 n) x:=by
 unfold OO Q0 K1;rw[II hn];rfl
theorem FW{t:H8}(hq:O1 t){k:Nat}(hk:k+1<t.length){n:Nat}(hn:n<(gt t (k+1)).length)(x:Int):
 OO t (k+1) n x↔I3 (Py t (k+1) n) x∧∃h∈H9 (gt t k),h.t=n∧∃y,OO t k h.f y∧h.s.Lo≤x-y∧x-y≤h.s.Hi:=
 A1g (A3N hq) (CC fun n hn=>((AA hq (k:=0) (by omega)).2 n hn).1) (B5 _ _) hk hn x
theorem Rh{t:H8}{n:Nat}(hn:n<(gt t (t.length-1)).length)(x:Int):LW t (t.length-1) n x↔I3 (Py t (t.length-1) n) x:=by
 unfold LW FQ;rw[SY];unfold K1;rw[II (by unfold KM;exact hn)];rfl
theorem Lj{t:H8}(hq:O1 t){k:Nat}(hk:k+1<t.length){n:Nat}(hn:n<(gt t k).length)(x:Int):
 LW t k n x↔I3 (Py t k n) x∧∃h∈H9 (gt t k),h.f=n∧∃y,LW t (k+1) h.t y∧h.s.Lo≤y-x∧y-x≤h.s.Hi:=by
 have l:t.length-1-k=(t.length-2-k)+1:=by omega
 have d:t.length-1-((t.length-2-k)+1)=k:=by omega
 have m:t.length-2-(t.length-2-k)=k:=by omega
 have o:t.length-1-(k+1)=t.length-2-k:=by omega
 have p:=A1g (A4k hq) (first:=F7 (KM t 0)) (CC fun n hn=>((AA hq (k:=t.length-1) (by omega)).2 n hn).1) (B5 _ _) (k:=t.length-2-k) (by omega) (n:=n) (by unfold KM;rw[d];exact hn) x
 unfold LW
 rw[l,o]
 unfold FQ
 rw[p]
 have q:KM t (t.length-2-k+1)=gt t k:=by unfold KM;rw[d]
 have u:stB t (t.length-2-k)=EK (gt t k):=by unfold stB;rw[m]
 rw[q,u]
 refine Uz fun _=>?_
 constructor
 ·rintro⟨s,v,a,y,b,g⟩
  obtain⟨r,c,rfl⟩:=Sh.1 v
  exact⟨r,c,a,y,b,by dsimp only at g;omega⟩
 ·rintro⟨r,c,a,y,b,g⟩
  exact⟨_,Sh.2 ⟨r,c,rfl⟩,a,y,b,by dsimp only;omega⟩
def Hq(t:H8)(k:Nat):Prop:=∃n x,n<(gt t k).length∧OO t k n x∧LW t k n x
theorem A0f{t:H8}(hq:O1 t){k:Nat}(hk:k+1<t.length):Hq t k↔Hq t (k+1):=by
 have c:=(Gd hq hk).2
 constructor
 ·rintro⟨n,x,g,l,m⟩
  obtain⟨_,s,d,rfl,y,b,o⟩:=(Lj hq hk g x).1 m
  have a:=c s d
  refine⟨s.t,y,a.2.1,(FW hq hk a.2.1 y).2 ⟨?_,s,d,rfl,x,l,o⟩,b⟩
  by_cases p:k+1+1<t.length
  ·exact((Lj hq p a.2.1 y).1 b).1
  ·have e:k+1=t.length-1:=by omega
   rw[e]at b⊢
   exact(Rh (by rw[←e];exact a.2.1) y).1 b
 ·rintro⟨n,x,g,l,m⟩
  obtain⟨_,s,d,rfl,y,b,o⟩:=(FW hq hk g x).1 l
  have a:=c s d
  refine⟨s.f,y,a.1,b,(Lj hq hk a.1 y).2 ⟨?_,s,d,rfl,x,m,o⟩⟩
  cases k with
  |zero=>exact(LQ a.1 y).1 b
  |succ k=>exact((FW hq (by omega) a.1 y).1 b).1
theorem KE{t:H8}(hq:O1 t):∀k,k<t.length→(Hq t 0↔Hq t k)
 |0,_=>Iff.rfl
 |k+1,hk=>(KE hq k (by omega)).trans (A0f hq hk)
def R6(t:H8):Prop:=∃n,n<(Q0 t (t.length-1)).length∧0<(gt (Q0 t (t.length-1)) n).length
instance(t:H8):Decidable (R6 t):=by
 unfold R6
 have:(∃n,n<(Q0 t (t.length-1)).length∧0<(gt (Q0 t (t.length-1)) n).length)↔¬∀n,n<(Q0 t (t.length-1)).length→¬0<(gt (Q0 t (t.length-1)) n).length:=
  ⟨fun⟨n,a,b⟩ h=>h n a b,fun h=>Sj fun a=>h fun n c d=>a ⟨n,c,d⟩⟩
 exact decidable_of_iff _ this.symm
theorem GU{l:List Span}:0<l.length↔l≠[]:=List.length_pos_iff
theorem A9h{t:H8}(hq:O1 t):R6 t↔Hq t (t.length-1):=by
 have m:=hq.1.1.1
 have d:=W7 hq (k:=t.length-1) (by omega)
 constructor
 ·rintro⟨n,a,f⟩
  obtain⟨x,c⟩:=(Mw (d.1 n a).1).1 (GU.1 f)
  rw[d.2]at a
  refine⟨n,x,a,c,(Rh a x).2 ?_⟩
  by_cases o:t.length=1
  ·have e:t.length-1=0:=by omega
   rw[e]at a c⊢
   exact(LQ a x).1 c
  ·obtain⟨k,g⟩:∃k,t.length-1=k+1:=⟨t.length-2,by omega⟩
   rw[g]at a c⊢
   exact((FW hq (by omega) a x).1 c).1
 ·rintro⟨n,x,a,l,_⟩
  have b:n<(Q0 t (t.length-1)).length:=by rw[d.2];exact a
  exact⟨n,b,GU.2 ((Mw (d.1 n b).1).2 ⟨x,l⟩)⟩
def A8h(t:H8)(n:Nat):List Span:=F5 (gt (Q0 t 0) n) (gt (FQ t (t.length-1)) n)
theorem A8P{t:H8}(hq:O1 t):R6 t↔∃n,n<(gt t 0).length∧0<(A8h t n).length:=by
 have l:=hq.1.1.1
 rw[A9h hq,←KE hq _ (by omega)]
 have d:=W7 hq (k:=0) (by omega)
 have c:=Ib hq (k:=t.length-1) (by omega)
 rw[SY]at c
 have key:∀n,n<(gt t 0).length→(0<(A8h t n).length↔∃x,OO t 0 n x∧LW t 0 n x):=fun n a=>by
  have b:=d.1 n (by rw[d.2];exact a)
  have f:=c.1 n (by rw[c.2];exact a)
  unfold A8h
  rw[GU,Mw (Jn b.1 f.1)]
  exact exists_congr fun x=>Gk b.1 f.1 x
 constructor
 ·rintro⟨n,x,a,b⟩;exact⟨n,a,(key n a).2 ⟨x,b⟩⟩
 ·rintro⟨n,a,b⟩
  obtain⟨x,g⟩:=(key n a).1 b
  exact⟨n,x,a,g⟩
end Go.Proofs.T10
