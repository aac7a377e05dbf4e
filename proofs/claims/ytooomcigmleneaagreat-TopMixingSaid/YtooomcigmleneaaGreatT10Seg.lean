import Derived.Test.YtooomcigmleneaaGreatT10Pen
set_option linter.all false
namespace Go.Proofs.T10
open Go Go.Kx
variable{a b f hi i j lo n p pv x y:Nat}
section
variable{α:Type}[Inhabited α]
structure Seg(L R:List α)(a b:Nat):Prop where
 len:R.length=L.length
 perm:R.Perm L
 out:∀q,q<L.length→(q<a∨b≤q)→gt R q=gt L q
 all:∀P:α→Prop,(∀q,a≤q→q<b→P (gt L q))→∀q,a≤q→q<b→P (gt R q)
theorem Seg.refl(L:List α)(a b:Nat):Seg L L a b:=⟨rfl,.refl _,fun _ _ _=>rfl,fun _ h=>h⟩
theorem Seg.trans{L R Q:List α}{a b:Nat}(h:Seg L R a b)(h':Seg R Q a b):Seg L Q a b:=
 ⟨h'.len.trans h.len,h'.perm.trans h.perm,fun q hq ho=>(h'.out q (by rw[h.len];exact hq) ho).trans (h.out q hq ho),fun P hP=>h'.all P (h.all P hP)⟩
theorem Seg.sw{L:List α}{a b i j:Nat}(hi:a≤i∧i<b)(hj:a≤j∧j<b)(hb:b≤L.length):Seg L (sw L i j) a b:=by
 refine⟨C5v _ _ _,B5d (by omega) (by omega),fun q hq ho=>?_,fun P hP q h1 h2=>?_⟩
 ·rw[A1q hq,if_neg (by omega),if_neg (by omega)]
 ·rw[A1q (by omega)]
  split
  ·exact hP i hi.1 hi.2
  ·split
   ·exact hP j hj.1 hj.2
   ·exact hP q h1 h2
theorem Seg.tsw{L R:List α}(h:Seg L R a b)(hi:a≤i∧i<b)(hj:a≤j∧j<b)(hb:b≤L.length):Seg L (T10.sw R i j) a b:=h.trans (.sw hi hj (by rw[h.len];exact hb))
theorem Seg.wide{L R:List α}{a' b':Nat}(h:Seg L R a b)(ha:a'≤a)(hb:b≤b')(hl:b'≤L.length):Seg L R a' b':=by
 refine⟨h.len,h.perm,fun q hq ho=>h.out q hq (by omega),fun P hP q h1 h2=>?_⟩
 by_cases hq:a≤q∧q<b
 ·exact h.all P (fun r h3 h4=>hP r (by omega) (by omega)) q hq.1 hq.2
 ·rw[h.out q (by omega) (by omega)];exact hP q h1 h2
theorem Seg.tw{L R Q:List α}(h:Seg L R a b)(h':Seg R Q x y)(ha:a≤x)(hb:y≤b)(hl:b≤L.length):Seg L Q a b:=h.trans (h'.wide ha hb (by rw[h.len];exact hl))
variable(key:α→Int)
def Lb(R:List α)(a b:Nat):Prop:=0<a→∀q,a≤q→q<b→key (gt R (a-1))≤key (gt R q)
def Out(R:List α)(a b x y:Nat):Prop:=∀p q,a≤p→p<q→q<b→(p<x∨y≤q)→key (gt R p)≤key (gt R q)
variable{key}
theorem Srt.le{R:List α}(h:Srt key R a b){q:Nat}(h1:a≤p)(h2:p≤q)(h3:q<b):key (gt R p)≤key (gt R q):=by
 rcases Nat.lt_or_eq_of_le h2 with h4|h4
 ·exact h p q h1 h4 h3
 ·subst h4;exact Int.le_refl _
theorem Lb.zero(R:List α)(b:Nat):Lb key R 0 b:=fun h=>absurd h (Nat.lt_irrefl _)
theorem Lb.seg{L R:List α}(h:Lb key L a b)(hs:Seg L R a b)(hl:a≤L.length):Lb key R a b:=fun h0=>by
 rw[hs.out (a-1) (by omega) (by omega)]
 exact hs.all (fun x=>key (gt L (a-1))≤key x) (h h0)
theorem Out.start(R:List α)(a b:Nat):Out key R a b a b:=fun p q h1 h2 h3 h4=>by omega
theorem Out.seg{R Q:List α}(h:Out key R a b x y)(hs:Seg R Q x y)(hxy:a≤x∧x≤y∧y≤b∧b≤R.length):Out key Q a b x y:=fun p q h1 h2 h3 h4=>by
 by_cases hp:x≤p∧p<y
 ·by_cases hq:x≤q∧q<y
  ·omega
  ·rw[hs.out q (by omega) (by omega)]
   exact hs.all (fun e=>key e≤key (gt R q)) (fun r h5 h6=>h r q (by omega) (by omega) h3 (by omega)) p hp.1 hp.2
 ·rw[hs.out p (by omega) (by omega)]
  by_cases hq:x≤q∧q<y
  ·exact hs.all (fun e=>key (gt R p)≤key e) (fun r h5 h6=>h p r h1 (by omega) (by omega) (by omega)) q hq.1 hq.2
  ·rw[hs.out q (by omega) (by omega)];exact h p q h1 h2 h3 h4
theorem Out.done{R:List α}(h:Out key R a b x y)(hs:Srt key R x y):Srt key R a b:=fun p q h1 h2 h3=>by
 by_cases h4:p<x∨y≤q
 ·exact h p q h1 h2 h3 h4
 ·exact hs p q (by omega) h2 (by omega)
theorem Out.lb{L R:List α}(h:Out key R a b x y)(hL:Lb key L a b)(hs:Seg L R a b)(hxy:a≤x∧x≤y∧y≤b∧b≤L.length):Lb key R x y:=fun h0 q h1 h2=>by
 by_cases hx:a=x
 ·subst hx;exact hL.seg hs (by omega) h0 q h1 (by omega)
 ·exact h (x-1) q (by omega) (by omega) (by omega) (by omega)
theorem Lb.sub{R:List α}{c:Nat}(h:Lb key R a b)(hc:c≤b):Lb key R a c:=fun h0 q h1 h2=>h h0 q h1 (by omega)
structure InsS(key:α→Int)(L R:List α)(a b i j:Nat):Prop where
 seg:Seg L R a b
 bd:a≤j∧j≤i∧i<b
 srt:∀p q,a≤p→p<q→q≤i→p≠j→q≠j→key (gt R p)≤key (gt R q)
 at':∀q,j<q→q≤i→key (gt R j)≤key (gt R q)
theorem B0s{L R:List α}(h:Seg L R a b)(hs:Srt key R a i)(hi:a≤i∧i<b):InsS key L R a b i i:=
 ⟨h,by omega,fun p q h1 h2 h3 _ h5=>hs p q h1 h2 (by omega),fun q h1 h2=>by omega⟩
theorem B1Y{L R:List α}(h:InsS key L R a b i j)(hb:b≤L.length)(ha:a<j)(hc:key (gt R j)<key (gt R (j-1))):InsS key L (sw R j (j-1)) a b i (j-1):=by
 have hbd:=h.bd
 have hl:=h.seg.len
 have e:∀q,q<R.length→gt (sw R j (j-1)) q=if j-1=q then gt R j else if j=q then gt R (j-1)else gt R q:=fun q hq=>A1q hq
 refine⟨h.seg.tsw (by omega) (by omega) hb,by omega,fun p q h1 h2 h3 h4 h5=>?_,fun q h1 h2=>?_⟩
 ·rw[e p (by omega),e q (by omega),if_neg (show¬j-1=p by omega),if_neg (show¬j-1=q by omega)]
  by_cases hp:j=p
  ·rw[if_pos hp,if_neg (show¬j=q by omega)]
   exact h.srt (j-1) q (by omega) (by omega) h3 (by omega) (by omega)
  ·rw[if_neg hp]
   by_cases hq:j=q
   ·rw[if_pos hq];exact h.srt p (j-1) h1 (by omega) (by omega) (by omega) (by omega)
   ·rw[if_neg hq];exact h.srt p q h1 h2 h3 (by omega) (by omega)
 ·rw[e (j-1) (by omega),e q (by omega),if_pos rfl,if_neg (by omega)]
  by_cases hq:j=q
  ·rw[if_pos hq];omega
  ·rw[if_neg hq];exact h.at' q (by omega) h2
theorem A6w{L R:List α}(h:InsS key L R a b i j)(hc:a<j→¬key (gt R j)<key (gt R (j-1))):Seg L R a b∧Srt key R a (i+1):=by
 have hbd:=h.bd
 refine⟨h.seg,fun p q h1 h2 h3=>?_⟩
 by_cases hq:q=j
 ·subst hq
  have h4:=hc (by omega)
  by_cases hp:p=q-1
  ·subst hp;omega
  ·have:=h.srt p (q-1) h1 (by omega) (by omega) (by omega) (by omega);omega
 ·by_cases hp:p=j
  ·subst hp;exact h.at' q h2 (by omega)
  ·exact h.srt p q h1 h2 (by omega) hp hq
theorem InsS.stop{L R:List α}(h:InsS key L R a b i j)(hL:Lb key L a b)(hl:b≤L.length)(hj:1≤j)(hc:key (gt R j)<key (gt R (j-1))):a<j:=by
 have hbd:=h.bd
 apply Classical.byContradiction
 intro hn
 obtain rfl:j=a:=by omega
 have:=hL.seg h.seg (by omega) (by omega) j (by omega) (by omega)
 omega
def Hp(key:α→Int)(R:List α)(f lo hi:Nat):Prop:=∀i c,lo≤i→(c=2*i+1∨c=2*i+2)→c<hi→key (gt R (f+c))≤key (gt R (f+i))
structure HpX(key:α→Int)(R:List α)(f lo hi r:Nat):Prop where
 ge:lo≤r
 but:∀i c,lo≤i→(c=2*i+1∨c=2*i+2)→c<hi→i≠r→key (gt R (f+c))≤key (gt R (f+i))
 up:∀p c,lo≤p→(r=2*p+1∨r=2*p+2)→(c=2*r+1∨c=2*r+2)→c<hi→key (gt R (f+c))≤key (gt R (f+p))
theorem B9k{R:List α}(h:Hp key R f (lo+1) hi):HpX key R f lo hi lo:=
 ⟨Nat.le_refl _,fun i c h1 h2 h3 h4=>h i c (by omega) h2 h3,fun p c h1 h2=>by omega⟩
theorem A7N{R:List α}{r:Nat}(h:HpX key R f lo hi r)(hr:∀c,(c=2*r+1∨c=2*r+2)→c<hi→key (gt R (f+c))≤key (gt R (f+r))):Hp key R f lo hi:=fun i c h1 h2 h3=>by
 by_cases hi:i=r
 ·subst hi;exact hr c h2 h3
 ·exact h.but i c h1 h2 h3 hi
theorem A8S{R:List α}{r c:Nat}(h:HpX key R f lo hi r)(hc:c=2*r+1∨c=2*r+2)(hch:c<hi)(hl:f+hi≤R.length)(hlt:key (gt R (f+r))<key (gt R (f+c)))
 (hbig:∀d,(d=2*r+1∨d=2*r+2)→d<hi→key (gt R (f+d))≤key (gt R (f+c))):HpX key (sw R (f+r) (f+c)) f lo hi c:=by
 have hge:=h.ge
 have e:∀q,f+q<R.length→gt (sw R (f+r) (f+c)) (f+q)=if c=q then gt R (f+r)else if r=q then gt R (f+c)else gt R (f+q):=fun q hq=>by
  rw[A1q hq];simp only[Nat.add_left_cancel_iff]
 refine⟨by omega,fun i d h1 h2 h3 h4=>?_,fun p d h1 h2 h3 h4=>?_⟩
 ·rw[e d (by omega),e i (by omega),if_neg (show¬c=i by omega)]
  by_cases hi:r=i
  ·rw[if_pos hi,if_neg (show¬r=d by omega)]
   by_cases hd:c=d
   ·rw[if_pos hd];omega
   ·rw[if_neg hd];exact hbig d (by omega) h3
  ·rw[if_neg hi,if_neg (show¬c=d by omega)]
   by_cases hd:r=d
   ·rw[if_pos hd];exact h.up i c h1 (by omega) hc hch
   ·rw[if_neg hd];exact h.but i d h1 h2 h3 (by omega)
 ·obtain rfl:p=r:=by omega
  rw[e d (by omega),e p (by omega),if_neg (show¬c=d by omega),if_neg (show¬p=d by omega),if_neg (show¬c=p by omega),if_pos rfl]
  exact h.but c d (by omega) h3 h4 (by omega)
theorem C6u{R:List α}(h:Hp key R f 0 hi):∀q,q<hi→key (gt R (f+q))≤key (gt R (f+0)):=by
 intro q
 induction q using Nat.strongRecOn with
 |ind q ih=>
  intro hq
  by_cases h0:q=0
  ·subst h0;exact Int.le_refl _
  ·have h1:=h ((q-1)/2) q (Nat.zero_le _) (by omega) hq
   have h2:=ih ((q-1)/2) (by omega) (by omega)
   omega
theorem C3j(R:List α)(f:Nat)(h:hi≤2*lo+1):Hp key R f lo hi:=fun i c h1 h2 h3=>by omega
structure HpS(key:α→Int)(L R:List α)(f s n:Nat):Prop where
 seg:Seg L R f (f+n)
 heap:Hp key R f 0 s
 srt:∀p q,p<q→s≤q→q<n→key (gt R (f+p))≤key (gt R (f+q))
theorem B8G{L R:List α}(h:Seg L R f (f+n))(hh:Hp key R f 0 n):HpS key L R f n n:=⟨h,hh,fun p q h1 h2 h3=>by omega⟩
theorem C1d{L R:List α}{s:Nat}(h:HpS key L R f (s+1) n)(hs:s<n)(hl:f+n≤L.length):
 Seg L (sw R f (f+s)) f (f+n)∧Hp key (sw R f (f+s)) f 1 s∧(∀p q,p<q→s≤q→q<n→key (gt (sw R f (f+s)) (f+p))≤key (gt (sw R f (f+s)) (f+q))):=by
 have hl2:=h.seg.len
 have e:∀q,f+q<R.length→gt (sw R f (f+s)) (f+q)=if s=q then gt R f else if 0=q then gt R (f+s)else gt R (f+q):=fun q hq=>by
  rw[A1q hq]
  by_cases h1:s=q
  ·rw[if_pos h1,if_pos (by omega)]
  ·rw[if_neg h1,if_neg (by omega)]
   by_cases h2:0=q
   ·rw[if_pos h2,if_pos (by omega)]
   ·rw[if_neg h2,if_neg (by omega)]
 have ht:=C6u h.heap
 refine⟨h.seg.tsw (by omega) (by omega) (by omega),fun i c h1 h2 h3=>?_,fun p q h1 h2 h3=>?_⟩
 ·rw[e c (by omega),e i (by omega),if_neg (by omega),if_neg (by omega),if_neg (by omega),if_neg (by omega)]
  exact h.heap i c (by omega) h2 (by omega)
 ·rw[e p (by omega),e q (by omega)]
  by_cases hq:s=q
  ·subst hq
   rw[if_pos rfl,if_neg (by omega)]
   by_cases hp:0=p
   ·rw[if_pos hp];have:=ht s (by omega);simpa using this
   ·rw[if_neg hp];have:=ht p (by omega);simpa using this
  ·rw[if_neg hq,if_neg (show¬0=q by omega)]
   by_cases hp:s=p
   ·rw[if_pos hp];have:=h.srt 0 q (by omega) (by omega) h3;simpa using this
   ·rw[if_neg hp]
    by_cases hp0:0=p
    ·rw[if_pos hp0];exact h.srt s q (by omega) (by omega) h3
    ·rw[if_neg hp0];exact h.srt p q h1 (by omega) h3
theorem C1z{L R Q:List α}{s:Nat}(hs:s<n)(hl:f+n≤L.length)(h1:Seg L R f (f+n))(h2:∀p q,p<q→s≤q→q<n→key (gt R (f+p))≤key (gt R (f+q)))
 (h3:Seg R Q f (f+s)) (h4:Hp key Q f 0 s):HpS key L Q f s n:=by
 have hl2:=h1.len
 refine⟨h1.tw h3 (Nat.le_refl _) (by omega) hl,h4,fun p q hp hq hn=>?_⟩
 rw[h3.out (f+q) (by omega) (by omega)]
 by_cases h5:p<s
 ·exact h3.all (fun e=>key e≤key (gt R (f+q))) (fun r h6 h7=>by
   have:=h2 (r-f) q (by omega) hq hn
   rwa [show f+(r-f)=r by omega]at this) (f+p) (by omega) (by omega)
 ·rw[h3.out (f+p) (by omega) (by omega)];exact h2 p q hp hq hn
theorem C3g{L R:List α}(h:HpS key L R f 0 n):Seg L R f (f+n)∧Srt key R f (f+n):=⟨h.seg,fun p q h1 h2 h3=>by
 have:=h.srt (p-f) (q-f) (by omega) (by omega) (by omega)
 rwa [show f+(p-f)=p by omega,show f+(q-f)=q by omega]at this⟩
structure PtI(key:α→Int)(L R:List α)(a b i j:Nat):Prop where
 seg:Seg L R a b
 bd:a<i∧i≤j+1∧a≤j∧j<b
 lo:∀q,a<q→q<i→key (gt R q)<key (gt R a)
 hi:∀q,j<q→q<b→key (gt R a)≤key (gt R q)
theorem C5m{L R:List α}(h:PtI key L R a b i j)(hij:i≤j)(hc:key (gt R i)<key (gt R a)):PtI key L R a b (i+1) j:=
 ⟨h.seg,by have:=h.bd;omega,fun q h1 h2=>by
  rcases Nat.lt_succ_iff_lt_or_eq.1 h2 with h3|h3
  ·exact h.lo q h1 h3
  ·subst h3;exact hc,h.hi⟩
theorem C5T{L R:List α}(h:PtI key L R a b i j)(hij:i≤j)(hc:¬key (gt R j)<key (gt R a)):PtI key L R a b i (j-1):=
 ⟨h.seg,by have:=h.bd;omega,h.lo,fun q h1 h2=>by
  by_cases h3:q=j
  ·subst h3;omega
  ·exact h.hi q (by have:=h.bd;omega) h2⟩
theorem C2F{L R:List α}(h:PtI key L R a b i j)(hl:b≤L.length)(hij:i≤j)(h1:¬key (gt R i)<key (gt R a))(h2:key (gt R j)<key (gt R a)):PtI key L (sw R i j) a b (i+1) (j-1):=by
 have hbd:=h.bd
 have hl2:=h.seg.len
 have hij':i<j:=by
  rcases Nat.lt_or_eq_of_le hij with h3|h3
  ·exact h3
  ·subst h3;exact absurd h2 h1
 have e:∀q,q<R.length→gt (sw R i j) q=if j=q then gt R i else if i=q then gt R j else gt R q:=fun q hq=>A1q hq
 have ea:gt (sw R i j) a=gt R a:=by rw[e a (by omega),if_neg (by omega),if_neg (by omega)]
 refine⟨h.seg.tsw (by omega) (by omega) hl,by omega,fun q h3 h4=>?_,fun q h3 h4=>?_⟩
 ·rw[ea,e q (by omega),if_neg (by omega)]
  by_cases h5:i=q
  ·rw[if_pos h5];exact h2
  ·rw[if_neg h5];exact h.lo q h3 (by omega)
 ·rw[ea,e q (by omega)]
  by_cases h5:j=q
  ·rw[if_pos h5];omega
  ·rw[if_neg h5,if_neg (by omega)];exact h.hi q (by omega) h4
structure PtE(key:α→Int)(L R:List α)(a b p:Nat):Prop where
 seg:Seg L R a b
 bd:a≤p∧p<b
 lo:∀q,a≤q→q<p→key (gt R q)<key (gt R p)
 hi:∀q,p<q→q<b→key (gt R p)≤key (gt R q)
theorem B8d{L R:List α}(h:PtI key L R a b i j)(hl:b≤L.length)(hij:j<i):PtE key L (sw R j a) a b j:=by
 have hbd:=h.bd
 have hl2:=h.seg.len
 have e:∀q,q<R.length→gt (sw R j a) q=if a=q then gt R j else if j=q then gt R a else gt R q:=fun q hq=>A1q hq
 have ej:gt (sw R j a) j=gt R a:=by
  rw[e j (by omega)]
  by_cases h1:a=j
  ·rw[if_pos h1,h1]
  ·rw[if_neg h1,if_pos rfl]
 refine⟨h.seg.tsw (by omega) (by omega) hl,by omega,fun q h1 h2=>?_,fun q h1 h2=>?_⟩
 ·rw[ej,e q (by omega)]
  by_cases h3:a=q
  ·rw[if_pos h3];exact h.lo j (by omega) (by omega)
  ·rw[if_neg h3,if_neg (by omega)];exact h.lo q (by omega) (by omega)
 ·rw[ej,e q (by omega),if_neg (by omega),if_neg (by omega)];exact h.hi q h1 h2
structure PqI(key:α→Int)(L R:List α)(a b i j:Nat):Prop where
 seg:Seg L R a b
 bd:a<i∧i≤j+1∧a≤j∧j<b
 lo:∀q,a<q→q<i→key (gt R q)≤key (gt R a)
 hi:∀q,j<q→q<b→key (gt R a)<key (gt R q)
theorem C8b{L R:List α}(h:PqI key L R a b i j)(hij:i≤j)(hc:¬key (gt R a)<key (gt R i)):PqI key L R a b (i+1) j:=
 ⟨h.seg,by have:=h.bd;omega,fun q h1 h2=>by
  rcases Nat.lt_succ_iff_lt_or_eq.1 h2 with h3|h3
  ·exact h.lo q h1 h3
  ·subst h3;omega,h.hi⟩
theorem C8e{L R:List α}(h:PqI key L R a b i j)(hij:i≤j)(hc:key (gt R a)<key (gt R j)):PqI key L R a b i (j-1):=
 ⟨h.seg,by have:=h.bd;omega,h.lo,fun q h1 h2=>by
  by_cases h3:q=j
  ·subst h3;omega
  ·exact h.hi q (by have:=h.bd;omega) h2⟩
theorem C7O{L R:List α}(h:PqI key L R a b i j)(hl:b≤L.length)(hij:i≤j)(h1:key (gt R a)<key (gt R i))(h2:¬key (gt R a)<key (gt R j)):PqI key L (sw R i j) a b (i+1) (j-1):=by
 have hbd:=h.bd
 have hl2:=h.seg.len
 have hij':i<j:=by
  rcases Nat.lt_or_eq_of_le hij with h3|h3
  ·exact h3
  ·subst h3;exact absurd h1 h2
 have e:∀q,q<R.length→gt (sw R i j) q=if j=q then gt R i else if i=q then gt R j else gt R q:=fun q hq=>A1q hq
 have ea:gt (sw R i j) a=gt R a:=by rw[e a (by omega),if_neg (by omega),if_neg (by omega)]
 refine⟨h.seg.tsw (by omega) (by omega) hl,by omega,fun q h3 h4=>?_,fun q h3 h4=>?_⟩
 ·rw[ea,e q (by omega),if_neg (by omega)]
  by_cases h5:i=q
  ·rw[if_pos h5];omega
  ·rw[if_neg h5];exact h.lo q h3 (by omega)
 ·rw[ea,e q (by omega)]
  by_cases h5:j=q
  ·rw[if_pos h5];exact h1
  ·rw[if_neg h5,if_neg (by omega)];exact h.hi q (by omega) h4
theorem C0T{L:List α}(ha:a<L.length):gt (sw L a pv) a=gt L pv:=by
 rw[A1q ha]
 by_cases h:pv=a
 ·rw[if_pos h,h]
 ·rw[if_neg h,if_pos rfl]
theorem C2Y{L R:List α}(h:PqI key L R a b i j)(hl:b≤L.length)(hij:i≤j)(ha:a<i):key (gt (sw R i j) a)=key (gt R a):=by
 have:=h.bd
 have:=h.seg.len
 rw[A1q (by omega),if_neg (by omega),if_neg (by omega)]
structure PqE(key:α→Int)(L R:List α)(a b p pv:Nat):Prop where
 seg:Seg L R a b
 bd:a<p∧p≤b
 lo:∀q,a≤q→q<p→key (gt R q)≤key (gt L pv)
 hi:∀q,p≤q→q<b→key (gt L pv)<key (gt R q)
theorem C5P{L R:List α}(h:PqI key L R a b i j)(he:key (gt R a)=key (gt L pv))(hij:j<i):PqE key L R a b i pv:=by
 have hbd:=h.bd
 refine⟨h.seg,by omega,fun q h1 h2=>?_,fun q h1 h2=>?_⟩
 ·rw[←he]
  by_cases h3:a=q
  ·subst h3;exact Int.le_refl _
  ·exact h.lo q (by omega) h2
 ·rw[←he];exact h.hi q (by omega) h2
theorem C4Y{R Q:List α}(h:Out key R a b x y)(hxy:a≤x∧x<y∧y≤b∧b≤R.length)(hE:PqE key R Q x y p pv)(hL:Lb key R x y)(h0:0<x)(hc:¬key (gt R (x-1))<key (gt R pv)):Out key Q a b p y:=by
 have hb:=hE.bd
 have h1:=h.seg hE.seg (by omega)
 have h2:=hL.seg hE.seg (by omega) h0
 have h3:=hE.seg.out (x-1) (by omega) (by omega)
 intro u v h4 h5 h6 h7
 by_cases h8:u<x∨y≤v
 ·exact h1 u v h4 h5 h6 h8
 ·have h9:=hE.lo u (by omega) (by omega)
  have h10:=h2 v (by omega) (by omega)
  rw[h3]at h10
  by_cases h11:v<p
  ·omega
  ·have:=hE.hi v (by omega) (by omega);omega
theorem B4e{R Q Q':List α}(h:Out key R a b x y)(hxy:a≤x∧x<y∧y≤b∧b≤R.length)(hE:PtE key R Q x y p)(hs:Seg Q Q' x p)(ht:Srt key Q' x p):Out key Q' a b (p+1) y:=by
 have hb:=hE.bd
 have hl:=hE.seg.len
 have h1:=(h.seg hE.seg (by omega)).seg (hs.wide (Nat.le_refl _) (by omega:p≤y) (by omega)) (by omega)
 have ep:gt Q' p=gt Q p:=hs.out p (by omega) (by omega)
 have hlo:∀q,x≤q→q<p→key (gt Q' q)≤key (gt Q' p):=by
  rw[ep];exact hs.all (fun e=>key e≤key (gt Q p)) fun q h2 h3=>Int.le_of_lt (hE.lo q h2 h3)
 have hhi:∀q,p<q→q<y→key (gt Q' p)≤key (gt Q' q):=fun q h2 h3=>by
  rw[ep,hs.out q (by omega) (by omega)];exact hE.hi q h2 h3
 intro u v h4 h5 h6 h7
 by_cases h8:u<x∨y≤v
 ·exact h1 u v h4 h5 h6 h8
 ·rcases Nat.lt_trichotomy v p with h9|h9|h9
  ·exact ht u v (by omega) h5 h9
  ·subst h9;exact hlo u (by omega) h5
  ·rcases Nat.lt_or_eq_of_le (show u≤p by omega)with h10|h10
   ·exact Int.le_trans (hlo u (by omega) h10) (hhi v h9 (by omega))
   ·subst h10;exact hhi v h9 (by omega)
theorem B1H{R Q Q':List α}(h:Out key R a b x y)(hxy:a≤x∧x<y∧y≤b∧b≤R.length)(hE:PtE key R Q x y p)(hs:Seg Q Q' (p+1) y)(ht:Srt key Q' (p+1) y):Out key Q' a b x p:=by
 have hb:=hE.bd
 have hl:=hE.seg.len
 have h1:=(h.seg hE.seg (by omega)).seg (hs.wide (by omega:x≤p+1) (Nat.le_refl _) (by omega)) (by omega)
 have ep:gt Q' p=gt Q p:=hs.out p (by omega) (by omega)
 have hhi:∀q,p+1≤q→q<y→key (gt Q' p)≤key (gt Q' q):=by
  rw[ep];exact hs.all (fun e=>key (gt Q p)≤key e) fun q h2 h3=>hE.hi q (by omega) h3
 have hlo:∀q,x≤q→q<p→key (gt Q' q)≤key (gt Q' p):=fun q h2 h3=>by
  rw[ep,hs.out q (by omega) (by omega)];exact Int.le_of_lt (hE.lo q h2 h3)
 intro u v h4 h5 h6 h7
 by_cases h8:u<x∨y≤v
 ·exact h1 u v h4 h5 h6 h8
 ·rcases Nat.lt_trichotomy u p with h9|h9|h9
  ·rcases Nat.lt_or_eq_of_le (show p≤v by omega)with h10|h10
   ·exact Int.le_trans (hlo u (by omega) h9) (hhi v (by omega) (by omega))
   ·subst h10;exact hlo u (by omega) h9
  ·subst h9;exact hhi v (by omega) (by omega)
  ·exact ht u v (by omega) h5 (by omega)
theorem PtE.lbL{R Q:List α}(hE:PtE key R Q x y p)(hL:Lb key R x y)(hl:y≤R.length):Lb key Q x p:=(hL.seg hE.seg (by have:=hE.bd;omega)).sub (by have:=hE.bd;omega)
theorem PtE.lbR{R Q:List α}(hE:PtE key R Q x y p):Lb key Q (p+1) y:=fun _ q h1 h2=>hE.hi q (by omega) h2
theorem Srt.seg{R Q:List α}(h:Srt key R a b)(hs:Seg R Q x y)(hx:b≤x)(hb:b≤R.length):Srt key Q a b:=fun p q h1 h2 h3=>by
 rw[hs.out p (by omega) (by omega),hs.out q (by omega) (by omega)];exact h p q h1 h2 h3
theorem Srt.more{R:List α}(h:Srt key R a i)(hc:¬key (gt R i)<key (gt R (i-1))):Srt key R a (i+1):=fun p q h1 h2 h3=>by
 by_cases hq:q=i
 ·subst hq
  have:=h.le (p:=p) (q:=q-1)
  by_cases hp:p=q-1
  ·subst hp;omega
  ·have:=h p (q-1) h1 (by omega) (by omega);omega
 ·exact h p q h1 h2 (by omega)
theorem Srt.swp{R:List α}(h:Srt key R a x)(hx:x<R.length):Srt key (sw R x (x-1)) a (x-1):=fun p q h1 h2 h3=>by
 rw[A1q (by omega),A1q (by omega),if_neg (by omega),if_neg (by omega),if_neg (by omega),if_neg (by omega)]
 exact h p q h1 h2 (by omega)
theorem Srt.out{R:List α}(h:Srt key R a x)(hi:x≤i∧i<b)(hj:x≤j∧j<b)(hb:b≤R.length):Srt key (sw R i j) a x:=h.seg (.sw (a:=x) (b:=b) hi hj hb) (Nat.le_refl _) (by omega)
end
end Go.Proofs.T10
