import Derived.Test.YtooomcigmleneaaGreatT10KWalk2
import Derived.Test.YtooomcigmleneaaGreatT10W24
import Derived.Test.YtooomcigmleneaaGreatT10Ty
import Derived.Test.YtooomcigmleneaaGreatKyG
set_option linter.all false
namespace Go.Proofs.S10
open Go Go.Kx Go.Proofs.T10
def A1e(w:WeekT)(f:FiledT):Prop:=((U7 w.Base.Stations f.Station).2=0∧f.Week=w.Week∧A1c f.Sheet.Paper=0)∧(A2z f.Sheet.Paper f.Sheet.Trace f.Sheet.Blots=0∧Y9 f.Sheet.Drum=0)∧((f.Sheet.Drum.Rates.length:Int)+1=f.Sheet.Paper.Columns∧A5l f.Sheet.Pen=0∧(V2 f.Sheet.Drum f.Marks).1=0)
instance(w:WeekT)(f:FiledT):Decidable (A1e w f):=by unfold A1e;exact inferInstance
def A2G(w:WeekT)(r:ReadT):Prop:=(U7 w.Base.Stations r.Station).2=0∧r.Week=w.Week∧(0≤r.Tick∧r.Tick≤w.Base.Ticks)∧0≤r.Levels.Lo∧r.Levels.Lo≤r.Levels.Hi∧r.Levels.Hi≤12000
instance(w:WeekT)(r:ReadT):Decidable (A2G w r):=by unfold A2G;exact inferInstance
def A2t(w:WeekT):Prop:=A1z w.Base.Wind=0∧(1≤w.Base.Ticks∧w.Base.Ticks≤400)∧(0≤w.Base.Term∧w.Base.Term≤w.Base.Ticks)∧(0≤w.Week∧w.Week≤10000)
instance(w:WeekT):Decidable (A2t w):=by unfold A2t;exact inferInstance
def B2r(w:WeekT)(i:Nat):Prop:=(0<i→(gt w.Sheets (i-1)).Station<(gt w.Sheets i).Station)∧A1e w (gt w.Sheets i)
instance(w:WeekT)(i:Nat):Decidable (B2r w i):=by unfold B2r;exact inferInstance
def A0J(w:WeekT):Prop:=A2t w∧(w.Sheets.length≤64∧w.Reads.length≤64)∧(∀i,i<w.Sheets.length→B2r w i)∧(∀i,i<w.Reads.length→A2G w (gt w.Reads i))
instance(w:WeekT):Decidable (A0J w):=by unfold A0J;exact inferInstance
def U9(w:WeekT):Int:=if(H8 w.Base.Stations).1≠0 then(H8 w.Base.Stations).1 else if A0J w then 0 else 70
theorem B9U{w:WeekT}(h:(H8 w.Base.Stations).1≠0):U9 w=(H8 w.Base.Stations).1:=if_pos h
theorem A4y{w:WeekT}(h:¬(H8 w.Base.Stations).1≠0)(h1:¬A0J w):U9 w=70:=by rw[U9,if_neg h,if_neg h1]
theorem C0k{w:WeekT}(h:¬(H8 w.Base.Stations).1≠0)(h1:A0J w):U9 w=0:=by rw[U9,if_neg h,if_pos h1]
theorem A2M{w:WeekT}(h:U9 w=0):(H8 w.Base.Stations).1=0∧A0J w:=by
 unfold U9 at h;split at h
 ·contradiction
 ·split at h
  ·exact⟨by omega,by assumption⟩
  ·cases h
end Go.Proofs.S10
namespace Go.Proofs.S10
open Go Go.Kx Go.Proofs.T10
theorem A9R{l:List Station}{id:Int}(h:(U7 l id).2=0):0≤(U7 l id).1∧(U7 l id).1<l.length:=by
 unfold U7 at h⊢
 split at h
 ·contradiction
 ·rename_i h0
  rw[if_neg h0]
  split at h
  ·cases h
  ·rename_i h1
   rw[if_neg h1]
   refine⟨by omega,?_⟩
   show V8 (fun i=>(gt l i).ID=id) l.length<l.length
   have h2:¬V8 (fun i=>(gt l i).ID=id) l.length<0:=h1
   apply Classical.byContradiction
   intro hn
   have h3:¬∃k,k<l.length∧(∀j,j<k→¬(gt l j).ID=id)∧(gt l k).ID=id:=by
    rintro⟨k,hk,ha,hb⟩
    have:=A0K (p:=fun i=>(gt l i).ID=id) hk ha hb
    omega
   have h4:∀n,n≤l.length→∀j,j<n→¬(gt l j).ID=id:=by
    intro n
    induction n with
    |zero=>intro _ j hj;omega
    |succ n ih=>
     intro hl j hj
     rcases Nat.lt_succ_iff_lt_or_eq.1 hj with h5|h5
     ·exact ih (by omega) j h5
     ·subst h5;exact fun hb=>h3 ⟨j,by omega,ih (by omega),hb⟩
   have:=A0t (p:=fun i=>(gt l i).ID=id) (h4 l.length (Nat.le_refl _))
   omega
theorem B3G{f:Paper}{l:List Point}{b:List Int}(h:A2z f l b=0):(A0R f l b).length=f.Columns.toNat:=by rw[B5a h];simp
theorem A5W{l:List ReadT}{st:Int}{p:ReadT→Prop}(h:∀i,i<l.length→p (gt l i)):∀k,k≤l.length→∀i,i<(I1 l st k).length→p (gt (I1 l st k) i)
 |0,_,i,hi=>by simp[I1]at hi
 |k+1,hk,i,hi=>by
  rw[I1]at hi⊢
  split at hi
  ·rename_i h1
   rw[if_pos h1]
   rw[List.length_append]at hi
   by_cases h2:i<(I1 l st k).length
   ·rw[show gt (I1 l st k++[gt l k]) i=gt (I1 l st k) i by simp[gt,List.getD,List.getElem?_append_left h2]]
    exact A5W h k (by omega) i h2
   ·obtain rfl:i=(I1 l st k).length:=by simp at hi;omega
    rw[show gt (I1 l st k++[gt l k]) (I1 l st k).length=gt l k by simp[gt,List.getD]]
    exact h k (by omega)
  ·rename_i h1
   rw[if_neg h1]
   exact A5W h k (by omega) i hi
theorem C4H{w:WeekT}{i:Nat}(hw:A0J w)(hi:i<w.Sheets.length)(st:Int)(ix:RawV):ChOk (A7y w (gt w.Sheets i) st ix):=by
 have h1:=(hw.2.2.1 i hi).2
 have h2:=hw.1
 unfold A1e at h1
 unfold A2t at h2
 refine⟨A4s h1.2.2.2.1,⟨by show 0≤w.Base.Ticks;omega,by show w.Base.Ticks≤400;omega⟩,?_,?_⟩
 ·show(A0R _ _ _).length=(gt w.Sheets i).Sheet.Drum.Rates.length+1
  rw[B3G h1.2.1.1];omega
 ·exact A5W (p:=fun r=>0≤r.Tick∧r.Tick≤w.Base.Ticks) (fun j hj=>by have h3:=hw.2.2.2 j hj;unfold A2G at h3;omega) w.Reads.length (Nat.le_refl _)
theorem C2I{e:Int}(h:¬keepE e=0):¬e=0:=fun h0=>h (by rw[h0];rfl)
def C8y(w:WeekT)(i:Nat):Station:=gt w.Base.Stations ((U7 w.Base.Stations (gt w.Sheets i).Station).1:Int).toNat
def stL(w:WeekT)(n:Nat):List Station:=E8 n (C8y w)
def lvL(w:WeekT)(c:List Course)(n:Nat):List Int:=E8 n (fun i=>gt (gt c i).Levels (w.Base.Term:Int).toNat)
def A8G(w:WeekT)(c:List Course)(i:Nat):Prop:=A7t (A7y w (gt w.Sheets i) (gt w.Sheets i).Station ⟨.slice none 0 0,rfl⟩) (gt c i)
instance(w:WeekT)(c:List Course)(i:Nat):Decidable (A8G w c i):=by unfold A8G;exact inferInstance
theorem B1h{w:WeekT}{c:List Course}{i:Nat}{ix:RawV}:A7t (A7y w (gt w.Sheets i) (gt w.Sheets i).Station ix) (gt c i)↔A8G w c i:=Iff.rfl
def A7U(w:WeekT)(c:List Course):Int:=(A0y w.Base.Wind (stL w w.Sheets.length) w.Week (lvL w c w.Sheets.length)).2
def A1H(w:WeekT)(c:List Course):Prop:=c.length=w.Sheets.length∧(∀i,i<w.Sheets.length→A8G w c i)∧A7U w c=0
instance(w:WeekT)(c:List Course):Decidable (A1H w c):=by unfold A1H;exact inferInstance
def A2N(w:WeekT)(c:List Course):Int:=if U9 w≠0 then U9 w else if A1H w c then 0 else 71
theorem B6z{w:WeekT}{c:List Course}(h:U9 w≠0):A2N w c=U9 w:=if_pos h
theorem A4Z{w:WeekT}{c:List Course}(h:¬U9 w≠0)(h1:¬A1H w c):A2N w c=71:=by rw[A2N,if_neg h,if_neg h1]
theorem B9t{w:WeekT}{c:List Course}(h:¬U9 w≠0)(h1:A1H w c):A2N w c=0:=by rw[A2N,if_neg h,if_pos h1]
def A7k(w:WeekT)(c:List Course):Prop:=c.length=w.Sheets.length∧(∀i,i<w.Sheets.length→A4E (gt w.Sheets i).Sheet w.Base.Ticks (gt c i))∧A7U w c=0
instance(w:WeekT)(c:List Course):Decidable (A7k w c):=by unfold A7k;exact inferInstance
def A3T(w:WeekT)(c:List Course)(i k:Nat):Prop:=inP [(gt (gt w.Sheets i).Marks k).Ticks] (gt (gt c i).Ticks (gt (gt w.Sheets i).Marks k).Column.toNat)
instance(w:WeekT)(c:List Course)(i k:Nat):Decidable (A3T w c i k):=by unfold A3T;exact inferInstance
def A3X(w:WeekT)(c:List Course)(k i:Nat):Prop:=(gt w.Sheets i).Station=(gt w.Reads k).Station→inP [(gt w.Reads k).Levels] (gt (gt c i).Levels (gt w.Reads k).Tick.toNat)
instance(w:WeekT)(c:List Course)(k i:Nat):Decidable (A3X w c k i):=by unfold A3X;exact inferInstance
def A9s(w:WeekT)(c:List Course):Prop:=(∀i,i<w.Sheets.length→∀k,k<(gt w.Sheets i).Marks.length→A3T w c i k)∧(∀k,k<w.Reads.length→∀i,i<w.Sheets.length→A3X w c k i)
instance(w:WeekT)(c:List Course):Decidable (A9s w c):=by unfold A9s;exact inferInstance
def A0T(w:WeekT)(c:List Course):Prop:=A7k w c∧A9s w c
instance(w:WeekT)(c:List Course):Decidable (A0T w c):=by unfold A0T;exact inferInstance
end Go.Proofs.S10
namespace Go.Proofs.S10
open Go Go.Kx Go.Proofs.T10
abbrev Mark:=T10.Mark
theorem A8J{w:WeekT}{i:Nat}(hw:A0J w)(hi:i<w.Sheets.length):Ok (gt w.Sheets i).Sheet.Drum (gt w.Sheets i).Marks:=by
 have h1:=(hw.2.2.1 i hi).2.2.2.2.2
 exact B2l (by unfold A0A;rw[h1];rfl)
theorem B2A{w:WeekT}{i k:Nat}(hw:A0J w)(hi:i<w.Sheets.length)(hk:k<(gt w.Sheets i).Marks.length):0≤(gt (gt w.Sheets i).Marks k).Column∧(gt (gt w.Sheets i).Marks k).Column≤((gt w.Sheets i).Sheet.Drum.Rates.length:Int):=by
 have h1:=(A8J hw hi).ma k hk
 unfold A1x at h1
 have h2:=Classical.not_not.1 h1
 omega
def mkA(w:WeekT)(c:List Course)(i:Nat):Prop:=∀j,j<i→∀k,k<(gt w.Sheets j).Marks.length→A3T w c j k
def mkB(w:WeekT)(c:List Course)(i k:Nat):Prop:=mkA w c i∧∀q,q<k→A3T w c i q
def rdA(w:WeekT)(c:List Course)(k:Nat):Prop:=mkA w c w.Sheets.length∧∀q,q<k→∀i,i<w.Sheets.length→A3X w c q i
def rdB(w:WeekT)(c:List Course)(k i:Nat):Prop:=rdA w c k∧∀j,j<i→A3X w c k j
variable{w:WeekT}{c:List Course}
theorem C1q:(([]:List ClaimT).length=0)↔mkA w c 0:=⟨fun _ _ hj=>absurd hj (Nat.not_lt_zero _),fun _=>rfl⟩
theorem C1X{i:Nat}:mkA w c i↔mkB w c i 0:=⟨fun h=>⟨h,fun _ hq=>absurd hq (Nat.not_lt_zero _)⟩,fun h=>h.1⟩
theorem C4t{i k:Nat}(h:A3T w c i k):mkB w c i k↔mkB w c i (k+1):=
 ⟨fun h1=>⟨h1.1,fun q hq=>by rcases Nat.lt_succ_iff_lt_or_eq.1 hq with h2|h2;exact h1.2 q h2;subst h2;exact h⟩,fun h1=>⟨h1.1,fun q hq=>h1.2 q (by omega)⟩⟩
theorem C5a{i k:Nat}(h:¬A3T w c i k):¬mkB w c i (k+1):=fun h1=>h (h1.2 k (by omega))
theorem C2Z{i k:Nat}(h:k=(gt w.Sheets i).Marks.length):mkB w c i k↔mkA w c (i+1):=
 ⟨fun h1 j hj q hq=>by rcases Nat.lt_succ_iff_lt_or_eq.1 hj with h2|h2;exact h1.1 j h2 q hq;subst h2;exact h1.2 q (by omega),fun h1=>⟨fun j hj=>h1 j (by omega),fun q hq=>h1 i (by omega) q (by omega)⟩⟩
theorem C2n{i:Nat}(h:i=w.Sheets.length):mkA w c i↔rdA w c 0:=by subst h;exact⟨fun h=>⟨h,fun _ hq=>absurd hq (Nat.not_lt_zero _)⟩,fun h=>h.1⟩
theorem C0V{k:Nat}:rdA w c k↔rdB w c k 0:=⟨fun h=>⟨h,fun _ hq=>absurd hq (Nat.not_lt_zero _)⟩,fun h=>h.1⟩
theorem B5y{k i:Nat}(h:A3X w c k i):rdB w c k i↔rdB w c k (i+1):=
 ⟨fun h1=>⟨h1.1,fun q hq=>by rcases Nat.lt_succ_iff_lt_or_eq.1 hq with h2|h2;exact h1.2 q h2;subst h2;exact h⟩,fun h1=>⟨h1.1,fun q hq=>h1.2 q (by omega)⟩⟩
theorem C5F{k i:Nat}(h:¬A3X w c k i):¬rdB w c k (i+1):=fun h1=>h (h1.2 i (by omega))
theorem C3i{k i:Nat}(h:i=w.Sheets.length):rdB w c k i↔rdA w c (k+1):=by
 subst h
 exact⟨fun h1=>⟨h1.1.1,fun q hq j hj=>by rcases Nat.lt_succ_iff_lt_or_eq.1 hq with h2|h2;exact h1.1.2 q h2 j hj;subst h2;exact h1.2 j hj⟩,fun h1=>⟨⟨h1.1,fun q hq=>h1.2 q (by omega)⟩,fun j hj=>h1.2 k (by omega) j hj⟩⟩
theorem C3a{k:Nat}(h:k=w.Reads.length):rdA w c k↔A9s w c:=by subst h;exact Iff.rfl
theorem B2X{M:List ClaimT}{x:ClaimT}{p:Prop}(h:¬p):(M++[x]).length=0↔p:=⟨fun h1=>by simp at h1,fun h1=>absurd h1 h⟩
end Go.Proofs.S10
namespace Go.Proofs.S10
open Go Go.Kx Go.Proofs.T10
theorem B3O{m:List Mark}{c:Nat}{t:Int}:∀k,((X9 m k c).Lo≤t∧t≤(X9 m k c).Hi)↔(0≤t∧t≤400)∧∀q,q<k→(gt m q).Column=(c:Int)→(gt m q).Ticks.Lo≤t∧t≤(gt m q).Ticks.Hi
 |0=>by
  show(0≤t∧t≤400)↔_
  exact⟨fun h=>⟨h,fun q hq=>absurd hq (Nat.not_lt_zero _)⟩,fun h=>h.1⟩
 |k+1=>by
  have ih:=B3O (m:=m) (c:=c) (t:=t) k
  by_cases hc:(gt m k).Column=(c:Int)
  ·have h1:((X9 m (k+1) c).Lo≤t∧t≤(X9 m (k+1) c).Hi)↔((X9 m k c).Lo≤t∧t≤(X9 m k c).Hi)∧(gt m k).Ticks.Lo≤t∧t≤(gt m k).Ticks.Hi:=by
    rw[X9,if_pos hc];unfold A2R;dsimp only;omega
   rw[h1,ih]
   exact⟨fun h=>⟨h.1.1,fun q hq hqc=>by rcases Nat.lt_succ_iff_lt_or_eq.1 hq with h2|h2;exact h.1.2 q h2 hqc;subst h2;exact h.2⟩,fun h=>⟨⟨h.1,fun q hq=>h.2 q (by omega)⟩,h.2 k (by omega) hc⟩⟩
  ·have h1:X9 m (k+1) c=X9 m k c:=by rw[X9,if_neg hc]
   rw[h1,ih]
   exact⟨fun h=>⟨h.1,fun q hq hqc=>by rcases Nat.lt_succ_iff_lt_or_eq.1 hq with h2|h2;exact h.2 q h2 hqc;subst h2;exact absurd hqc hc⟩,fun h=>⟨h.1,fun q hq=>h.2 q (by omega)⟩⟩
theorem B0B{d:Drum}(hd:A0X d){i:Nat}(hi:i<d.Rates.length):∀k,k≤d.Stops.length→S8 d i k=F0 d i k∧(0≤(F0 d i k).Lo∧(F0 d i k).Lo≤40+k*400)∧(0≤(F0 d i k).Hi∧(F0 d i k).Hi≤40+k*400)
 |0,_=>by
  have h1:=Classical.not_not.1 (hd.2.1 i hi)
  unfold U6 at h1
  refine⟨rfl,?_⟩
  show(0≤(gt d.Rates i).Lo∧_)∧(0≤(gt d.Rates i).Hi∧(gt d.Rates i).Hi≤_)
  exact⟨⟨by omega,by show(gt d.Rates i).Lo≤_;omega⟩,by omega,by omega⟩
 |k+1,hk=>by
  obtain⟨h1,h2,h3⟩:=B0B hd hi k (by omega)
  have h4:=Classical.not_not.1 (hd.2.2 k (by omega))
  have hs:=hd.1.2
  have h5:=h4.2
  unfold U6 at h5
  by_cases hc:(gt d.Stops k).Column=(i:Int)
  ·rw[A8L hc,h1]
   rw[F0,if_pos hc]
   refine⟨?_,?_⟩
   ·rw[A9q (by omega) (by omega),A9q (by omega) (by omega)]
   ·dsimp only;omega
  ·rw[B0F hc,h1]
   rw[F0,if_neg hc]
   exact⟨rfl,by omega⟩
def C8v(p:Pen)(x:Course)(t:Nat):Prop:=(gt x.Levels t-x.Zero-gt x.Shown t≤p.Band∧gt x.Shown t-(gt x.Levels t-x.Zero)≤p.Band)∧(0<t→(gt x.Levels t-gt x.Levels (t-1)≤p.Rate∧-(gt x.Levels t-gt x.Levels (t-1))≤p.Rate)∧gt x.Shown t=Z6 p.Band (gt x.Shown (t-1)) (gt x.Levels t-x.Zero))
theorem C0D{p:Pen}{first:Int}{L:List Int}{n:Nat}(h:Y0 p first L (n+1)=n+1):okM p first L n=true:=by
 cases h1:okM p first L n with
 |true=>rfl
 |false=>
  rw[Y0,if_neg (by rw[h1];exact Bool.false_ne_true)]at h
  have:=A5y (p:=p) (first:=first) (L:=L) n
  omega
theorem B2z{p:Pen}{x:Course}{n:Nat}(hp:Y3 p)(hn:1≤n∧n≤401)(hr:∀t,t<n→A9m x t)(hz: -200≤x.Zero∧x.Zero≤200):A4G p (A1d x n)=0↔∀t,t<n→C8v p x t:=by
 have hl:(A1d x n).length=n:=C4 _ _
 have hS:G8 (A1d x n) (A1d x n).length=E8 n (gt x.Shown):=by
  rw[hl];unfold G8;exact A0o fun i hi=>by unfold A1d;rw[V4 _ hi]
 have hR:M1 (A1d x n) (A1d x n).length=Z2 x n:=by
  rw[hl];unfold M1 Z2;exact A0o fun i hi=>by unfold A1d;rw[V4 _ hi]
 have hSl:(E8 n (gt x.Shown)).length=n:=C4 _ _
 have hRl:(Z2 x n).length=n:=B9M _ _
 have hf:gt (E8 n (gt x.Shown)) 0=gt x.Shown 0:=V4 _ (by omega)
 have e1:O9 p (E8 n (gt x.Shown))=0:=B6q hp (by rw[hSl];omega) fun i hi=>by
  rw[hSl]at hi;rw[V4 _ hi];have:=(hr i hi).1;omega
 have e2:J4 (Z2 x n)=0:=by
  unfold J4
  rw[if_pos ⟨by rw[hRl];omega,fun i hi=>by rw[hRl]at hi;rw[A0f hi];have:=(hr i hi).2;omega⟩]
 have e3:T2 p [gt x.Shown 0]=0:=by
  unfold T2
  have hv:A2A [gt x.Shown 0]:=fun i hi=>by
   have h1:i<1:=hi
   obtain rfl:i=0:=by omega
   have:=(hr 0 (by omega)).1
   show-50000≤gt x.Shown 0∧gt x.Shown 0≤50000
   omega
  rw[if_neg (by rw[A8E hp];exact fun h=>h rfl),if_pos hv]
 have hb:=hp.1.1
 unfold A4G
 rw[hS,hR,e1,e2,hf,if_neg (fun h=>h rfl),if_neg (fun h=>h rfl)]
 obtain⟨q,rfl⟩:∃q,n=q+1:=⟨n-1,by omega⟩
 constructor
 ·intro h
  split at h
  ·cases h
  ·rename_i h1
   have h2:A0S p (gt x.Shown 0) (Z2 x (q+1))=0:=Classical.byContradiction fun h3=>h1 (.inl h3)
   have h3:A6m p (gt x.Shown 0) (Z2 x (q+1))=E8 (q+1) (gt x.Shown):=Classical.byContradiction fun h3=>h1 (.inr h3)
   rw[B0W h2]at h3
   unfold shL at h3
   rw[hRl]at h3
   have hsh:∀t,t<q+1→T5 p.Band (gt x.Shown 0) (Z2 x (q+1)) t=gt x.Shown t:=fun t ht=>by
    have:=congrArg (fun L=>gt L t) h3
    simp only[V4 _ ht]at this
    exact this
   have hc:Y0 p (gt x.Shown 0) (Z2 x (q+1)) (q+1)=q+1:=by
    have h4:=A5y (p:=p) (first:=gt x.Shown 0) (L:=Z2 x (q+1)) (q+1)
    apply Classical.byContradiction
    intro h5
    have h6:=A6G (p:=p) (first:=gt x.Shown 0) (L:=Z2 x (q+1)) (fun h=>h e3) (fun h=>h e2) (by rw[hRl];omega)
    rw[h2]at h6;cases h6
   have hok:∀k,k≤q→okM p (gt x.Shown 0) (Z2 x (q+1)) k=true:=fun k hk=>A9V hk (C0D hc)
   intro t ht
   match t with
   |0=>
    have h4:=hok 0 (Nat.zero_le _)
    rw[okM]at h4
    have h5:=of_decide_eq_true h4
    unfold A3u A3H at h5
    dsimp only at h5
    rw[A0f (by omega)]at h5
    exact⟨by omega,fun h=>absurd h (Nat.lt_irrefl _)⟩
   |t+1=>
    have h4:=hok (t+1) (by omega)
    rw[okM,Bool.and_eq_true]at h4
    have h5:=(of_decide_eq_true h4.2).2
    unfold A3H at h5
    dsimp only at h5
    rw[A0f (by omega),A0f (by omega)]at h5
    have h6:gt x.Shown (t+1)=Z6 p.Band (gt x.Shown t) (gt x.Levels (t+1)-x.Zero):=by
     rw[←hsh (t+1) ht,T5,hsh t (by omega),A0f (by omega)]
    have h7:=B1N (b:=p.Band) (s:=gt x.Shown t) (r:=gt x.Levels (t+1)-x.Zero) hb
    rw[←h6]at h7
    exact⟨by omega,fun _=>⟨by show gt x.Levels (t+1)-gt x.Levels t≤_∧-(gt x.Levels (t+1)-gt x.Levels t)≤_;omega,h6⟩⟩
 ·intro hQ
  have hsh:∀t,t<q+1→T5 p.Band (gt x.Shown 0) (Z2 x (q+1)) t=gt x.Shown t:=by
   intro t
   induction t with
   |zero=>intro _;rfl
   |succ t ih=>
    intro ht
    rw[T5,ih (by omega),A0f ht]
    exact((hQ (t+1) ht).2 (by omega)).2.symm
  have hok:∀k,k<q+1→okM p (gt x.Shown 0) (Z2 x (q+1)) k=true:=by
   intro k
   induction k with
   |zero=>
    intro hk
    rw[okM]
    refine decide_eq_true ?_
    unfold A3u A3H
    dsimp only
    rw[A0f hk]
    have:=(hQ 0 hk).1
    omega
   |succ k ih=>
    intro hk
    rw[okM,ih (by omega),Bool.true_and]
    refine decide_eq_true ⟨?_,?_⟩
    ·unfold A3u A3H
     dsimp only
     rw[hsh k (by omega),A0f (by omega)]
     have:=(hQ k (by omega)).1
     omega
    ·unfold A3H
     dsimp only
     rw[A0f hk,A0f (by omega)]
     have:=((hQ (k+1) hk).2 (by omega)).1
     have h9:k+1-1=k:=rfl
     rw[h9]at this
     omega
  have hc:Y0 p (gt x.Shown 0) (Z2 x (q+1)) (q+1)=q+1:=B1v (hok q (by omega))
  have h2:A0S p (gt x.Shown 0) (Z2 x (q+1))=0:=B5n (fun h=>h e3) (fun h=>h e2) (by rw[hRl,hc];omega)
  rw[if_neg]
  intro h
  rcases h with h|h
  ·exact h h2
  ·refine h ?_
   rw[B0W h2]
   unfold shL
   rw[hRl]
   exact A0o hsh
theorem C1n{α:Type}[Inhabited α]{L:List α}{x:α}{p:α→Prop}:(∀i,i<(L++[x]).length→p (gt (L++[x]) i))↔(∀i,i<L.length→p (gt L i))∧p x:=by
 constructor
 ·intro h
  refine⟨fun i hi=>?_,?_⟩
  ·have:=h i (by simp;omega)
   rwa [show gt (L++[x]) i=gt L i by simp[gt,List.getD,List.getElem?_append_left hi]]at this
  ·have:=h L.length (by simp)
   rwa [show gt (L++[x]) L.length=x by simp[gt,List.getD]]at this
 ·rintro⟨h1,h2⟩ i hi
  by_cases h3:i<L.length
  ·rw[show gt (L++[x]) i=gt L i by simp[gt,List.getD,List.getElem?_append_left h3]];exact h1 i h3
  ·obtain rfl:i=L.length:=by simp at hi;omega
   rw[show gt (L++[x]) L.length=x by simp[gt,List.getD]];exact h2
theorem A6J{l:List ReadT}{st:Int}{p:ReadT→Prop}:∀k,(∀i,i<(I1 l st k).length→p (gt (I1 l st k) i))↔∀q,q<k→st=(gt l q).Station→p (gt l q)
 |0=>⟨fun _ q hq=>absurd hq (Nat.not_lt_zero _),fun _ i hi=>absurd hi (Nat.not_lt_zero _)⟩
 |k+1=>by
  have ih:=A6J (l:=l) (st:=st) (p:=p) k
  by_cases hc:(gt l k).Station=st
  ·rw[←A6L hc,C1n,ih]
   exact⟨fun h q hq hs=>by rcases Nat.lt_succ_iff_lt_or_eq.1 hq with h2|h2;exact h.1 q h2 hs;subst h2;exact h.2,fun h=>⟨fun q hq=>h q (by omega),h k (by omega) hc.symm⟩⟩
  ·rw[←A6U hc,ih]
   exact⟨fun h q hq hs=>by rcases Nat.lt_succ_iff_lt_or_eq.1 hq with h2|h2;exact h q h2 hs;subst h2;exact absurd hs.symm hc,fun h q hq=>h q (by omega)⟩
theorem B0k{s:Span}{n:Int}:inP [s] n↔s.Lo≤n∧n≤s.Hi:=by
 constructor
 ·rintro⟨i,hi,h⟩
  have h1:i<1:=hi
  obtain rfl:i=0:=by omega
  exact h
 ·exact fun h=>⟨0,Nat.one_pos,h⟩
theorem B4U{w:WeekT}{c:List Course}{i:Nat}(hw:A0J w)(hi:i<w.Sheets.length):
 A8G w c i↔A4E (gt w.Sheets i).Sheet w.Base.Ticks (gt c i)∧(∀k,k<(gt w.Sheets i).Marks.length→A3T w c i k)∧∀k,k<w.Reads.length→A3X w c k i:=by
 have hs:=(hw.2.2.1 i hi).2
 have hmk:=A8J hw hi
 have hh:=hw.1
 unfold A1e at hs
 unfold A2t at hh
 have hpp:=A4s hs.2.2.2.1
 have hdp:=A6k hs.2.1.2
 have hil:=B3G hs.2.1.1
 have hch:=hmk.e
 have hz1:=hpp.2.1
 have hz2:=hpp.2.2.1
 constructor
 ·intro h
  obtain⟨⟨h1,h2,h3⟩,⟨h4,h5⟩,h6,h7,h8,h9⟩:=h
  change (gt w.Sheets i).Sheet.Pen.Zero.Lo≤(gt c i).Zero∧(gt c i).Zero≤(gt w.Sheets i).Sheet.Pen.Zero.Hi at h1
  change∀j,j<(gt c i).Ticks.length→0≤gt (gt c i).Ticks j∧gt (gt c i).Ticks j≤w.Base.Ticks at h2
  change T10.keepE (gt w.Sheets i).Sheet.Drum (gt w.Sheets i).Marks (gt c i).Ticks=0 at h3
  change ((gt c i).Shown.length:Int)=w.Base.Ticks+1 at h4
  change ((gt c i).Levels.length:Int)=w.Base.Ticks+1 at h5
  have hk:A5S (gt w.Sheets i).Sheet.Drum (gt w.Sheets i).Marks (gt c i).Ticks:=by
   unfold T10.keepE at h3
   rw[hch,if_neg (fun h=>h rfl)]at h3
   apply Classical.byContradiction
   intro h0;rw[if_neg h0]at h3;cases h3
  have hpk:=(B2z (x:=gt c i) (n:=(gt c i).Shown.length) hpp (by omega) (fun t ht=>h6 t ht) (by omega)).1 h9
  refine⟨⟨⟨⟨⟨hk.1,h4⟩,h5,h1.1,h1.2⟩,hs.2.1.1,by rw[hil,hk.1];omega⟩,fun j hj=>⟨h2 j hj,h7 j hj,fun h0=>?_⟩,fun t ht=>?_⟩,fun k hkk=>?_,fun k hkk=>?_⟩
  ·have hj':j-1<(gt w.Sheets i).Sheet.Drum.Rates.length:=by have:=hk.1;omega
   rw[(B0B hdp hj' _ (Nat.le_refl _)).1]
   have:=hk.2.2 (j-1) hj'
   rw[show j-1+1=j by omega]at this
   exact this
  ·have hts:t<(gt c i).Shown.length:=by omega
   have ha:=h6 t hts
   have hb:=hpk t hts
   exact⟨⟨ha.1,ha.2,hb.1⟩,hb.2⟩
  ·have hcol:=B2A hw hi hkk
   have hat:=hk.2.1 (gt (gt w.Sheets i).Marks k).Column.toNat (by omega)
   have:=((B3O _).1 hat).2 k hkk (by omega)
   exact B0k.2 this
  ·intro hst
   exact B0k.2 ((A6J (p:=fun r=>A5b (gt c i) r) w.Reads.length).1 h8 k hkk hst)
 ·rintro⟨⟨⟨⟨⟨a1,a2⟩,a3,a4,a5⟩,a6,a7⟩,b,d⟩,e,g⟩
  have hk:A5S (gt w.Sheets i).Sheet.Drum (gt w.Sheets i).Marks (gt c i).Ticks:=by
   refine⟨a1,fun j hj=>?_,fun j hj=>?_⟩
   ·have hb:=(b j (by omega)).1
    refine(B3O _).2 ⟨by omega,fun q hq hqc=>?_⟩
    have hm:=B0k.1 (e q hq)
    rw[show(gt (gt w.Sheets i).Marks q).Column.toNat=j by omega]at hm
    exact hm
   ·have hb:=(b (j+1) (by omega)).2.2 (by omega)
    rw[show j+1-1=j by omega,(B0B hdp hj _ (Nat.le_refl _)).1]at hb
    exact hb
  refine⟨⟨⟨a4,a5⟩,fun j hj=>(b j hj).1,?_⟩,⟨a2,a3⟩,fun t ht=>?_,fun j hj=>(b j hj).2.1,?_,?_⟩
  ·show T10.keepE (gt w.Sheets i).Sheet.Drum (gt w.Sheets i).Marks (gt c i).Ticks=0
   unfold T10.keepE
   rw[hch,if_neg (fun h=>h rfl),if_pos hk]
  ·have:=(d t (by omega)).1;exact⟨this.1,this.2.1⟩
  ·exact(A6J (p:=fun r=>A5b (gt c i) r) w.Reads.length).2 fun q hq hst=>B0k.1 (g q hq hst)
  ·exact(B2z (x:=gt c i) (n:=(gt c i).Shown.length) hpp (by omega) (fun t ht=>by have:=(d t (by omega)).1;exact⟨this.1,this.2.1⟩) (by omega)).2 fun t ht=>by
    have:=d t (by omega);exact⟨this.1.2.2,this.2⟩
theorem B2d{w:WeekT}{c:List Course}(hz:U9 w=0):A2N w c=0↔A0T w c:=by
 have hw:=(A2M hz).2
 have h1:A2N w c=0↔A1H w c:=by
  unfold A2N
  rw[hz,if_neg (fun h=>h rfl)]
  constructor
  ·intro h;apply Classical.byContradiction;intro h0;rw[if_neg h0]at h;cases h
  ·intro h;rw[if_pos h]
 rw[h1]
 constructor
 ·rintro⟨a,b,d⟩
  have hb:=fun i hi=>(B4U hw hi).1 (b i hi)
  exact⟨⟨a,fun i hi=>(hb i hi).1,d⟩,fun i hi=>(hb i hi).2.1,fun k hk i hi=>(hb i hi).2.2 k hk⟩
 ·rintro⟨⟨a,b,d⟩,e,g⟩
  exact⟨a,fun i hi=>(B4U hw hi).2 ⟨b i hi,e i hi,fun k hk=>g k hk i hi⟩,d⟩
end Go.Proofs.S10
namespace Go.Proofs.S10
open Go Go.Kx Go.Proofs.T10
def orL:List Int→Int
 | []=>0
 |x::r=>if x=0 then orL r else x
theorem B5o:∀{l:List Int} {k:Nat},k<l.length→(∀j,j<k→gt l j=0)→¬gt l k=0→orL l=gt l k
 | [],k,hk,_,_=>by simp at hk
 |x::r,0,_,_,h=>by rw[A1n]at h ⊢; rw[orL,if_neg h]
 |x::r,k+1,hk,ha,h=>by
  have h0:=ha 0 (by omega)
  rw[A1n]at h0
  rw[A1D]at h⊢
  rw[orL,if_pos h0]
  exact B5o (by simpa using hk) (fun j hj=>by have:=ha (j+1) (by omega);rwa [A1D]at this) h
theorem B7I:∀{l:List Int},(∀j,j<l.length→gt l j=0)→orL l=0
 | [],_=>rfl
 |x::r,ha=>by
  have h0:=ha 0 (by simp)
  rw[A1n]at h0
  rw[orL,if_pos h0]
  exact B7I fun j hj=>by have:=ha (j+1) (by simpa using hj);rwa [A1D]at this
def B2w(a b:NName):Int:=orL [S7 a.Clerk b.Clerk,S7 a.Num b.Num]
abbrev G4(n:NoteT):NName:=⟨n.Clerk,n.Num⟩
def C7T(a b:NoteT):Int:=orL [S7 a.Day b.Day,S7 a.Clock b.Clock,B2w (G4 a) (G4 b)]
def rnP(n:NName):Prop:=(1≤n.Clerk∧n.Clerk≤8)∧(1≤n.Num∧n.Num≤400)
instance(n:NName):Decidable (rnP n):=by unfold rnP;exact inferInstance
def A6r(s:Span)(lo hi:Int):Prop:=(lo≤s.Lo∧s.Lo≤s.Hi)∧s.Hi≤hi
instance(s:Span)(lo hi:Int):Decidable (A6r s lo hi):=by unfold A6r;exact inferInstance
def rmP(x:Mark):Prop:=(0≤x.Column∧x.Column≤199)∧A6r x.Ticks 0 400
instance(x:Mark):Decidable (rmP x):=by unfold rmP;exact inferInstance
def plP(b:BaseT)(st wk:Int):Prop:=(U7 b.Stations st).2=0∧0≤wk∧wk≤10000
instance(b:BaseT)(st wk:Int):Decidable (plP b st wk):=by unfold plP;exact inferInstance
def rrP(b:BaseT)(r:ReadT):Prop:=plP b r.Station r.Week∧(0≤r.Tick∧r.Tick≤b.Ticks)∧A6r r.Levels 0 12000
instance(b:BaseT)(r:ReadT):Decidable (rrP b r):=by unfold rrP;exact inferInstance
def baP(b:BaseT):Prop:=((H8 b.Stations).1=0∧A1z b.Wind=0)∧(1≤b.Ticks∧b.Ticks≤400)∧(0≤b.Term∧b.Term≤b.Ticks)∧(1≤b.Clerks∧b.Clerks≤8)
instance(b:BaseT):Decidable (baP b):=by unfold baP;exact inferInstance
def baE(b:BaseT):Int:=if baP b then 0 else 100
theorem C3f{b:BaseT}(h:baP b):baE b=0:=if_pos h
theorem C6O{b:BaseT}(h:¬baP b):baE b=100:=if_neg h
def fbP(b:BaseT):Prop:=(b.Stations.length≤4∧b.Ticks≤8)∧∀i,i<b.Stations.length→(gt b.Stations i).Heights.length≤6
instance(b:BaseT):Decidable (fbP b):=by unfold fbP;exact inferInstance
def B0U(x:Sheet):Prop:=(x.Trace.length≤12∧x.Blots.length≤8∧x.Drum.Rates.length≤5∧x.Drum.Stops.length≤4∧x.Pen.Band≤2∧wr (x.Pen.Zero.Hi-x.Pen.Zero.Lo)≤2)∧(∀i,i<x.Trace.length→(gt x.Trace i).Half≤2000)∧x.Paper.Height≤20000∧x.Paper.Pitch≤5000
instance(x:Sheet):Decidable (B0U x):=by unfold B0U;exact inferInstance
def B7i(l:List NoteT):Prop:=(∀i,i<l.length→B0U (gt l i).Sheet)∧l.length≤40
instance(l:List NoteT):Decidable (B7i l):=by unfold B7i;exact inferInstance
end Go.Proofs.S10
namespace Go.Proofs.S10
open Go Go.Kx Go.Proofs.T10
def ssP(a b:Sheet):Prop:=a.Paper=b.Paper∧a.Trace=b.Trace∧a.Blots=b.Blots∧a.Drum.Rates=b.Drum.Rates∧a.Drum.Stops=b.Drum.Stops∧a.Pen=b.Pen
instance(a b:Sheet):Decidable (ssP a b):=by unfold ssP;exact inferInstance
def snP(a b:NoteT):Prop:=G4 a=G4 b∧a.Clock=b.Clock∧a.Day=b.Day∧a.Kind=b.Kind∧a.Station=b.Station∧a.Week=b.Week∧a.Mark=b.Mark∧a.Read=b.Read∧a.Height=b.Height∧a.Ref=b.Ref∧ssP a.Sheet b.Sheet
instance(a b:NoteT):Decidable (snP a b):=by unfold snP;exact inferInstance
def C2l(l:List Int)(v:Int):Int:=V8 (fun i=>v=gt l i) l.length
def B3l(r:RegT)(st wk:Int):Int:=V8 (fun i=>(gt r.Sheets i).Station=st∧(gt r.Sheets i).Week=wk) r.Sheets.length
end Go.Proofs.S10
namespace Go.Proofs.S10
open Go Go.Kx Go.Proofs.T10
def RefOk(m:Mem)(r:RawV):Prop:=∃q,r.v= .pointer q∧(q.isNone=false→∃p n,q=some p∧At m p (n:NName))
theorem RefOk.mono{m m':Mem}{r:RawV}(h:RefOk m r)(hm:m.le m'):RefOk m' r:=by
 obtain⟨q,h1,h2⟩:=h
 exact⟨q,h1,fun hq=>by obtain⟨p,n,h3,h4⟩:=h2 hq;exact⟨p,n,h3,h4.mono hm⟩⟩
theorem RefOk.no{m:Mem}{h:(Value.pointer none).oneCell'=true}:RefOk m ⟨.pointer none,h⟩:=⟨none,rfl,fun h=>by cases h⟩
theorem RefOk.yes{m:Mem}{p:Addr}{n:NName}{h:(Value.pointer (some p)).oneCell'=true}(ha:At m p n):RefOk m ⟨.pointer (some p),h⟩:=⟨some p,rfl,fun _=>⟨p,n,rfl,ha⟩⟩
def Ok5(m:Mem)(v:Value):Prop:=(∃c,∃x:SheetCt,v= .iface 448 (.agg c.toArray)∧Enc.rd m c x∧RefOk m x.filing.ref)∨(∃c,∃x:MarkCt,v= .iface 450 (.agg c.toArray)∧Enc.rd m c x)∨
 (∃c,∃x:ReadCt,v= .iface 452 (.agg c.toArray)∧Enc.rd m c x∧RefOk m x.ref)∨
 (∃c,∃x:FilingT,v= .iface 296 (.agg c.toArray)∧Enc.rd m c x∧RefOk m x.ref)∨(∃c,∃x:WithCt,v= .iface 456 (.agg c.toArray)∧Enc.rd m c x)
def OkC(m:Mem)(v:Value)(k:Int):Prop:=v= .nilIface∨(¬k=4∧Ok5 m v)∨(∃c,∃x:HeightCt,v= .iface 454 (.agg c.toArray)∧Enc.rd m c x)
theorem Ok5.mono{m m':Mem}{v:Value}(h:Ok5 m v)(hm:m.le m'):Ok5 m' v:=by
 rcases h with⟨c,x,h1,h2,h3⟩|⟨c,x,h1,h2⟩|⟨c,x,h1,h2,h3⟩|⟨c,x,h1,h2,h3⟩|⟨c,x,h1,h2⟩
 ·exact .inl ⟨c,x,h1,Enc.mono hm h2,h3.mono hm⟩
 ·exact .inr (.inl ⟨c,x,h1,Enc.mono hm h2⟩)
 ·exact .inr (.inr (.inl ⟨c,x,h1,Enc.mono hm h2,h3.mono hm⟩))
 ·exact .inr (.inr (.inr (.inl ⟨c,x,h1,Enc.mono hm h2,h3.mono hm⟩)))
 ·exact .inr (.inr (.inr (.inr ⟨c,x,h1,Enc.mono hm h2⟩)))
theorem OkC.mono{m m':Mem}{v:Value}{k:Int}(h:OkC m v k)(hm:m.le m'):OkC m' v k:=by
 rcases h with h|⟨h1,h2⟩|⟨c,x,h1,h2⟩
 ·exact .inl h
 ·exact .inr (.inl ⟨h1,h2.mono hm⟩)
 ·exact .inr (.inr ⟨c,x,h1,Enc.mono hm h2⟩)
theorem OkC.form{m:Mem}{v:Value}{k:Int}(h:OkC m v k):v= .nilIface∨∃d u,v= .iface d u:=by
 rcases h with h|⟨_,⟨c,x,h,_⟩|⟨c,x,h,_⟩|⟨c,x,h,_⟩|⟨c,x,h,_⟩|⟨c,x,h,_⟩⟩|⟨c,x,h,_⟩
 ·exact .inl h
 all_goals exact .inr ⟨_,_,h⟩
theorem B5Z{b:BaseT}{st wk:Int}(h:plP b st wk):0<b.Stations.length:=by have:=A9R h.1;omega
abbrev SB(k:Int)(b:BaseT)(_:Mem)(v:Value):Prop:=∃q:Bool,v= .bool q∧(q=true→k=4→0<b.Stations.length)
theorem A9Z{P:Program}{f:FuncId}{args:Array Value}{m:Mem}{k:Int}{b:BaseT}(hk:¬k=4)(h:Pure P f args m fun _ v=>∃q:Bool,v= .bool q):Pure P f args m (SB k b):=Pure.mono h fun _ _ _ ⟨q,h⟩=>⟨q,h,fun _ h4=>absurd h4 hk⟩
theorem C4T{P:Program}{f:FuncId}{args:Array Value}{m:Mem}{k:Int}{b:BaseT}(h:Pure P f args m fun _ v=>∃q:Bool,v= .bool q∧(q=true→0<b.Stations.length)):Pure P f args m (SB k b):=Pure.mono h fun _ _ _ ⟨q,h,h2⟩=>⟨q,h,fun hq _=>h2 hq⟩
end Go.Proofs.S10
