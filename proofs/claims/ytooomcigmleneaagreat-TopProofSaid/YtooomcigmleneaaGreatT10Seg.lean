import Derived.Test.YtooomcigmleneaaGreatT10Data
set_option linter.all false
namespace Go.Proofs.T10
open Go Go.Kx
section
variable{α:Type}[Inhabited α]
structure Seg(L R:List α)(a b:Nat):Prop where
 len:R.length=L.length
 perm:R.Perm L
 out:∀q,q<L.length→(q<a∨b≤q)→gt R q=gt L q
 all:∀P:α→Prop,(∀q,a≤q→q<b→P (gt L q))→∀q,a≤q→q<b→P (gt R q)
theorem Seg.refl(L:List α)(a b:Nat):Seg L L a b:=⟨rfl,.refl _,fun _ _ _=>rfl,fun _ h=>h⟩
theorem Seg.trans{L R Q:List α}{a b:Nat}(h:Seg L R a b)(h':Seg R Q a b):Seg L Q a b:=
 ⟨h'.len.trans h.len,h'.perm.trans h.perm,fun q c d=>(h'.out q (by rw[h.len];exact c) d).trans (h.out q c d),fun P f=>h'.all P (h.all P f)⟩
theorem Seg.sw{L:List α}{a b i j:Nat}(hi:a≤i∧i<b)(hj:a≤j∧j<b)(hb:b≤L.length):Seg L (sw L i j) a b:=by
 refine⟨B4F _ _ _,A1w (by omega) (by omega),fun q d k=>?_,fun P c q f g=>?_⟩
 ·rw[Ch d,A' (by omega),A' (by omega)]
 ·rw[Ch (by omega)]
  split
  ·exact c i hi.1 hi.2
  ·split
   ·exact c j hj.1 hj.2
   ·exact c q f g
theorem Seg.tsw{L R:List α}{a b i j:Nat}(h:Seg L R a b)(hi:a≤i∧i<b)(hj:a≤j∧j<b)(hb:b≤L.length):Seg L (T10.sw R i j) a b:=h.trans (.sw hi hj (by rw[h.len];exact hb))
theorem Seg.wide{L R:List α}{a b a' b':Nat}(h:Seg L R a b)(ha:a'≤a)(hb:b≤b')(hl:b'≤L.length):Seg L R a' b':=by
 refine⟨h.len,h.perm,fun q c k=>h.out q c (by omega),fun P d q f g=>?_⟩
 by_cases c:a≤q∧q<b
 ·exact h.all P (fun r l m=>d r (by omega) (by omega)) q c.1 c.2
 ·rw[h.out q (by omega) (by omega)];exact d q f g
theorem Seg.tw{L R Q:List α}{a b x y:Nat}(h:Seg L R a b)(h':Seg R Q x y)(ha:a≤x)(hb:y≤b)(hl:b≤L.length):Seg L Q a b:=h.trans (h'.wide ha hb (by rw[h.len];exact hl))
variable(key:α→Int)
def Lb(R:List α)(a b:Nat):Prop:=0<a→∀q,a≤q→q<b→key (gt R (a-1))≤key (gt R q)
def Out(R:List α)(a b x y:Nat):Prop:=∀p q,a≤p→p<q→q<b→(p<x∨y≤q)→key (gt R p)≤key (gt R q)
variable{key}
theorem Srt.le{R:List α}{a b:Nat}(h:Srt key R a b){p q:Nat}(h1:a≤p)(h2:p≤q)(h3:q<b):key (gt R p)≤key (gt R q):=by
 rcases TG h2 with h4|h4
 ·exact h p q h1 h4 h3
 ·subst h4;exact Si _
theorem Lb.zero(R:List α)(b:Nat):Lb key R 0 b:=fun h=>absurd h (Tb _)
theorem Lb.seg{L R:List α}{a b:Nat}(h:Lb key L a b)(hs:Seg L R a b)(hl:a≤L.length):Lb key R a b:=fun c=>by
 rw[hs.out (a-1) (by omega) (by omega)]
 exact hs.all (fun x=>key (gt L (a-1))≤key x) (h c)
theorem Out.start(R:List α)(a b:Nat):Out key R a b a b:=fun p q c d f g=>by omega
theorem Out.seg{R Q:List α}{a b x y:Nat}(h:Out key R a b x y)(hs:Seg R Q x y)(hxy:a≤x∧x≤y∧y≤b∧b≤R.length):Out key Q a b x y:=fun p q d k f l=>by
 by_cases g:x≤p∧p<y
 ·by_cases c:x≤q∧q<y
  ·omega
  ·rw[hs.out q (by omega) (by omega)]
   exact hs.all (fun e=>key e≤key (gt R q)) (fun r m n=>h r q (by omega) (by omega) f (by omega)) p g.1 g.2
 ·rw[hs.out p (by omega) (by omega)]
  by_cases c:x≤q∧q<y
  ·exact hs.all (fun e=>key (gt R p)≤key e) (fun r m n=>h p r d (by omega) (by omega) (by omega)) q c.1 c.2
  ·rw[hs.out q (by omega) (by omega)];exact h p q d k f l
theorem Out.done{R:List α}{a b x y:Nat}(h:Out key R a b x y)(hs:Srt key R x y):Srt key R a b:=fun p q d c f=>by
 by_cases g:p<x∨y≤q
 ·exact h p q d c f g
 ·exact hs p q (by omega) c (by omega)
theorem Out.lb{L R:List α}{a b x y:Nat}(h:Out key R a b x y)(hL:Lb key L a b)(hs:Seg L R a b)(hxy:a≤x∧x≤y∧y≤b∧b≤L.length):Lb key R x y:=fun c q d g=>by
 by_cases f:a=x
 ·subst f;exact hL.seg hs (by omega) c q d (by omega)
 ·exact h (x-1) q (by omega) (by omega) (by omega) (by omega)
theorem Lb.sub{R:List α}{a b c:Nat}(h:Lb key R a b)(hc:c≤b):Lb key R a c:=fun d q f g=>h d q f (by omega)
structure InsS(key:α→Int)(L R:List α)(a b i j:Nat):Prop where
 seg:Seg L R a b
 bd:a≤j∧j≤i∧i<b
 srt:∀p q,a≤p→p<q→q≤i→p≠j→q≠j→key (gt R p)≤key (gt R q)
 at':∀q,j<q→q≤i→key (gt R j)≤key (gt R q)
theorem Mf{L R:List α}{a b i:Nat}(h:Seg L R a b)(hs:Srt key R a i)(hi:a≤i∧i<b):InsS key L R a b i i:=
 ⟨h,by omega,fun p q c d f _ g=>hs p q c d (by omega),fun q c d=>by omega⟩
theorem OX{L R:List α}{a b i j:Nat}(h:InsS key L R a b i j)(hb:b≤L.length)(ha:a<j)(hc:key (gt R j)<key (gt R (j-1))):InsS key L (sw R j (j-1)) a b i (j-1):=by
 have hbd:=h.bd
 have n:=h.seg.len
 have e:∀q,q<R.length→gt (sw R j (j-1)) q=if j-1=q then gt R j else if j=q then gt R (j-1)else gt R q:=fun q c=>Ch c
 refine⟨h.seg.tsw (by omega) (by omega) hb,by omega,fun p q d f g l m=>?_,fun q d f=>?_⟩
 ·rw[e p (by omega),e q (by omega),A' (show¬j-1=p by omega),A' (show¬j-1=q by omega)]
  by_cases k:j=p
  ·rw[D' k,A' (show¬j=q by omega)]
   exact h.srt (j-1) q (by omega) (by omega) g (by omega) (by omega)
  ·rw[A' k]
   by_cases c:j=q
   ·rw[D' c];exact h.srt p (j-1) d (by omega) (by omega) (by omega) (by omega)
   ·rw[A' c];exact h.srt p q d f g (by omega) (by omega)
 ·rw[e (j-1) (by omega),e q (by omega),D' rfl,A' (by omega)]
  by_cases c:j=q
  ·rw[D' c];omega
  ·rw[A' c];exact h.at' q (by omega) f
theorem Ia{L R:List α}{a b i j:Nat}(h:InsS key L R a b i j)(hc:a<j→¬key (gt R j)<key (gt R (j-1))):Seg L R a b∧Srt key R a (i+1):=by
 have hbd:=h.bd
 refine⟨h.seg,fun p q d f k=>?_⟩
 by_cases g:q=j
 ·subst g
  have l:=hc (by omega)
  by_cases c:p=q-1
  ·subst c;omega
  ·have:=h.srt p (q-1) d (by omega) (by omega) (by omega) (by omega);omega
 ·by_cases c:p=j
  ·subst c;exact h.at' q f (by omega)
  ·exact h.srt p q d f (by omega) c g
theorem InsS.stop{L R:List α}{a b i j:Nat}(h:InsS key L R a b i j)(hL:Lb key L a b)(hl:b≤L.length)(hj:1≤j)(hc:key (gt R j)<key (gt R (j-1))):a<j:=by
 have hbd:=h.bd
 apply Sj
 intro c
 obtain rfl:j=a:=by omega
 have:=hL.seg h.seg (by omega) (by omega) j (by omega) (by omega)
 omega
def Hp(key:α→Int)(R:List α)(f lo hi:Nat):Prop:=∀i c,lo≤i→(c=2*i+1∨c=2*i+2)→c<hi→key (gt R (f+c))≤key (gt R (f+i))
structure HpX(key:α→Int)(R:List α)(f lo hi r:Nat):Prop where
 ge:lo≤r
 but:∀i c,lo≤i→(c=2*i+1∨c=2*i+2)→c<hi→i≠r→key (gt R (f+c))≤key (gt R (f+i))
 up:∀p c,lo≤p→(r=2*p+1∨r=2*p+2)→(c=2*r+1∨c=2*r+2)→c<hi→key (gt R (f+c))≤key (gt R (f+p))
theorem A6v{R:List α}{f lo hi:Nat}(h:Hp key R f (lo+1) hi):HpX key R f lo hi lo:=
 ⟨E' _,fun i c b a d g=>h i c (by omega) a d,fun p c b a=>by omega⟩
theorem JZ{R:List α}{f lo hi r:Nat}(h:HpX key R f lo hi r)(hr:∀c,(c=2*r+1∨c=2*r+2)→c<hi→key (gt R (f+c))≤key (gt R (f+r))):Hp key R f lo hi:=fun i c d a b=>by
 by_cases hi:i=r
 ·subst hi;exact hr c a b
 ·exact h.but i c d a b hi
theorem LI{R:List α}{f lo hi r c:Nat}(h:HpX key R f lo hi r)(hc:c=2*r+1∨c=2*r+2)(hch:c<hi)(hl:f+hi≤R.length)(hlt:key (gt R (f+r))<key (gt R (f+c)))
 (hbig:∀d,(d=2*r+1∨d=2*r+2)→d<hi→key (gt R (f+d))≤key (gt R (f+c))):HpX key (sw R (f+r) (f+c)) f lo hi c:=by
 have n:=h.ge
 have e:∀q,f+q<R.length→gt (sw R (f+r) (f+c)) (f+q)=if c=q then gt R (f+r)else if r=q then gt R (f+c)else gt R (f+q):=fun q m=>by
  rw[Ch m];simp only[Nat.add_left_cancel_iff]
 refine⟨by omega,fun i d g k b l=>?_,fun p d g k b l=>?_⟩
 ·rw[e d (by omega),e i (by omega),A' (show¬c=i by omega)]
  by_cases hi:r=i
  ·rw[D' hi,A' (show¬r=d by omega)]
   by_cases a:c=d
   ·rw[D' a];omega
   ·rw[A' a];exact hbig d (by omega) b
  ·rw[A' hi,A' (show¬c=d by omega)]
   by_cases a:r=d
   ·rw[D' a];exact h.up i c g (by omega) hc hch
   ·rw[A' a];exact h.but i d g k b (by omega)
 ·obtain rfl:p=r:=by omega
  rw[e d (by omega),e p (by omega),A' (show¬c=d by omega),A' (show¬p=d by omega),A' (show¬c=p by omega),D' rfl]
  exact h.but c d (by omega) b l (by omega)
theorem B4c{R:List α}{f hi:Nat}(h:Hp key R f 0 hi):∀q,q<hi→key (gt R (f+q))≤key (gt R (f+0)):=by
 intro q
 induction q using Nat.strongRecOn with
 |ind q ih=>
  intro a
  by_cases b:q=0
  ·subst b;exact Si _
  ·have c:=h ((q-1)/2) q (EF _) (by omega) a
   have d:=ih ((q-1)/2) (by omega) (by omega)
   omega
theorem B2V(R:List α)(f:Nat){lo hi:Nat}(h:hi≤2*lo+1):Hp key R f lo hi:=fun i c a b d=>by omega
structure HpS(key:α→Int)(L R:List α)(f s n:Nat):Prop where
 seg:Seg L R f (f+n)
 heap:Hp key R f 0 s
 srt:∀p q,p<q→s≤q→q<n→key (gt R (f+p))≤key (gt R (f+q))
theorem A4G{L R:List α}{f n:Nat}(h:Seg L R f (f+n))(hh:Hp key R f 0 n):HpS key L R f n n:=⟨h,hh,fun p q a b c=>by omega⟩
theorem A9j{L R:List α}{f s n:Nat}(h:HpS key L R f (s+1) n)(hs:s<n)(hl:f+n≤L.length):
 Seg L (sw R f (f+s)) f (f+n)∧Hp key (sw R f (f+s)) f 1 s∧(∀p q,p<q→s≤q→q<n→key (gt (sw R f (f+s)) (f+p))≤key (gt (sw R f (f+s)) (f+q))):=by
 have o:=h.seg.len
 have e:∀q,f+q<R.length→gt (sw R f (f+s)) (f+q)=if s=q then gt R f else if 0=q then gt R (f+s)else gt R (f+q):=fun q k=>by
  rw[Ch k]
  by_cases a:s=q
  ·rw[D' a,D' (by omega)]
  ·rw[A' a,A' (by omega)]
   by_cases b:0=q
   ·rw[D' b,D' (by omega)]
   ·rw[A' b,A' (by omega)]
 have m:=B4c h.heap
 refine⟨h.seg.tsw (by omega) (by omega) (by omega),fun i c a b l=>?_,fun p q a b l=>?_⟩
 ·rw[e c (by omega),e i (by omega),A' (by omega),A' (by omega),A' (by omega),A' (by omega)]
  exact h.heap i c (by omega) b (by omega)
 ·rw[e p (by omega),e q (by omega)]
  by_cases k:s=q
  ·subst k
   rw[D' rfl,A' (by omega)]
   by_cases d:0=p
   ·rw[D' d];have:=m s (by omega);simpa using this
   ·rw[A' d];have:=m p (by omega);simpa using this
  ·rw[A' k,A' (show¬0=q by omega)]
   by_cases d:s=p
   ·rw[D' d];have:=h.srt 0 q (by omega) (by omega) l;simpa using this
   ·rw[A' d]
    by_cases g:0=p
    ·rw[D' g];exact h.srt s q (by omega) (by omega) l
    ·rw[A' g];exact h.srt p q a (by omega) l
theorem A8C{L R Q:List α}{f s n:Nat}(hs:s<n)(hl:f+n≤L.length)(h1:Seg L R f (f+n))(h2:∀p q,p<q→s≤q→q<n→key (gt R (f+p))≤key (gt R (f+q)))
 (h3:Seg R Q f (f+s)) (h4:Hp key Q f 0 s):HpS key L Q f s n:=by
 have d:=h1.len
 refine⟨h1.tw h3 (E' _) (by omega) hl,h4,fun p q c a b=>?_⟩
 rw[h3.out (f+q) (by omega) (by omega)]
 by_cases l:p<s
 ·exact h3.all (fun e=>key e≤key (gt R (f+q))) (fun r g k=>by
   have:=h2 (r-f) q (by omega) a b
   rwa [show f+(r-f)=r by omega]at this) (f+p) (by omega) (by omega)
 ·rw[h3.out (f+p) (by omega) (by omega)];exact h2 p q c a b
theorem B2Z{L R:List α}{f n:Nat}(h:HpS key L R f 0 n):Seg L R f (f+n)∧Srt key R f (f+n):=⟨h.seg,fun p q a b c=>by
 have:=h.srt (p-f) (q-f) (by omega) (by omega) (by omega)
 rwa [show f+(p-f)=p by omega,show f+(q-f)=q by omega]at this⟩
structure PtI(key:α→Int)(L R:List α)(a b i j:Nat):Prop where
 seg:Seg L R a b
 bd:a<i∧i≤j+1∧a≤j∧j<b
 lo:∀q,a<q→q<i→key (gt R q)<key (gt R a)
 hi:∀q,j<q→q<b→key (gt R a)≤key (gt R q)
theorem B4o{L R:List α}{a b i j:Nat}(h:PtI key L R a b i j)(hij:i≤j)(hc:key (gt R i)<key (gt R a)):PtI key L R a b (i+1) j:=
 ⟨h.seg,by have:=h.bd;omega,fun q c d=>by
  rcases Sc.1 d with h3|h3
  ·exact h.lo q c h3
  ·subst h3;exact hc,h.hi⟩
theorem B4m{L R:List α}{a b i j:Nat}(h:PtI key L R a b i j)(hij:i≤j)(hc:¬key (gt R j)<key (gt R a)):PtI key L R a b i (j-1):=
 ⟨h.seg,by have:=h.bd;omega,h.lo,fun q f c=>by
  by_cases d:q=j
  ·subst d;omega
  ·exact h.hi q (by have:=h.bd;omega) c⟩
theorem B0d{L R:List α}{a b i j:Nat}(h:PtI key L R a b i j)(hl:b≤L.length)(hij:i≤j)(h1:¬key (gt R i)<key (gt R a))(h2:key (gt R j)<key (gt R a)):PtI key L (sw R i j) a b (i+1) (j-1):=by
 have hbd:=h.bd
 have l:=h.seg.len
 have g:i<j:=by
  rcases TG hij with c|c
  ·exact c
  ·subst c;exact absurd h2 h1
 have e:∀q,q<R.length→gt (sw R i j) q=if j=q then gt R i else if i=q then gt R j else gt R q:=fun q k=>Ch k
 have ea:gt (sw R i j) a=gt R a:=by rw[e a (by omega),A' (by omega),A' (by omega)]
 refine⟨h.seg.tsw (by omega) (by omega) hl,by omega,fun q c f=>?_,fun q c f=>?_⟩
 ·rw[ea,e q (by omega),A' (by omega)]
  by_cases d:i=q
  ·rw[D' d];exact h2
  ·rw[A' d];exact h.lo q c (by omega)
 ·rw[ea,e q (by omega)]
  by_cases d:j=q
  ·rw[D' d];omega
  ·rw[A' d,A' (by omega)];exact h.hi q (by omega) f
structure PtE(key:α→Int)(L R:List α)(a b p:Nat):Prop where
 seg:Seg L R a b
 bd:a≤p∧p<b
 lo:∀q,a≤q→q<p→key (gt R q)<key (gt R p)
 hi:∀q,p<q→q<b→key (gt R p)≤key (gt R q)
theorem A6N{L R:List α}{a b i j:Nat}(h:PtI key L R a b i j)(hl:b≤L.length)(hij:j<i):PtE key L (sw R j a) a b j:=by
 have hbd:=h.bd
 have k:=h.seg.len
 have e:∀q,q<R.length→gt (sw R j a) q=if a=q then gt R j else if j=q then gt R a else gt R q:=fun q g=>Ch g
 have ej:gt (sw R j a) j=gt R a:=by
  rw[e j (by omega)]
  by_cases c:a=j
  ·rw[D' c,c]
  ·rw[A' c,D' rfl]
 refine⟨h.seg.tsw (by omega) (by omega) hl,by omega,fun q c d=>?_,fun q c d=>?_⟩
 ·rw[ej,e q (by omega)]
  by_cases f:a=q
  ·rw[D' f];exact h.lo j (by omega) (by omega)
  ·rw[A' f,A' (by omega)];exact h.lo q (by omega) (by omega)
 ·rw[ej,e q (by omega),A' (by omega),A' (by omega)];exact h.hi q c d
structure PqI(key:α→Int)(L R:List α)(a b i j:Nat):Prop where
 seg:Seg L R a b
 bd:a<i∧i≤j+1∧a≤j∧j<b
 lo:∀q,a<q→q<i→key (gt R q)≤key (gt R a)
 hi:∀q,j<q→q<b→key (gt R a)<key (gt R q)
theorem B7e{L R:List α}{a b i j:Nat}(h:PqI key L R a b i j)(hij:i≤j)(hc:¬key (gt R a)<key (gt R i)):PqI key L R a b (i+1) j:=
 ⟨h.seg,by have:=h.bd;omega,fun q c d=>by
  rcases Sc.1 d with h3|h3
  ·exact h.lo q c h3
  ·subst h3;omega,h.hi⟩
theorem B6Q{L R:List α}{a b i j:Nat}(h:PqI key L R a b i j)(hij:i≤j)(hc:key (gt R a)<key (gt R j)):PqI key L R a b i (j-1):=
 ⟨h.seg,by have:=h.bd;omega,h.lo,fun q f c=>by
  by_cases d:q=j
  ·subst d;omega
  ·exact h.hi q (by have:=h.bd;omega) c⟩
theorem B6d{L R:List α}{a b i j:Nat}(h:PqI key L R a b i j)(hl:b≤L.length)(hij:i≤j)(h1:key (gt R a)<key (gt R i))(h2:¬key (gt R a)<key (gt R j)):PqI key L (sw R i j) a b (i+1) (j-1):=by
 have hbd:=h.bd
 have l:=h.seg.len
 have g:i<j:=by
  rcases TG hij with c|c
  ·exact c
  ·subst c;exact absurd h1 h2
 have e:∀q,q<R.length→gt (sw R i j) q=if j=q then gt R i else if i=q then gt R j else gt R q:=fun q k=>Ch k
 have ea:gt (sw R i j) a=gt R a:=by rw[e a (by omega),A' (by omega),A' (by omega)]
 refine⟨h.seg.tsw (by omega) (by omega) hl,by omega,fun q c f=>?_,fun q c f=>?_⟩
 ·rw[ea,e q (by omega),A' (by omega)]
  by_cases d:i=q
  ·rw[D' d];omega
  ·rw[A' d];exact h.lo q c (by omega)
 ·rw[ea,e q (by omega)]
  by_cases d:j=q
  ·rw[D' d];exact h1
  ·rw[A' d,A' (by omega)];exact h.hi q (by omega) f
theorem A7h{L:List α}{a pv:Nat}(ha:a<L.length):gt (sw L a pv) a=gt L pv:=by
 rw[Ch ha]
 by_cases h:pv=a
 ·rw[D' h,h]
 ·rw[A' h,D' rfl]
theorem B1T{L R:List α}{a b i j:Nat}(h:PqI key L R a b i j)(hl:b≤L.length)(hij:i≤j)(ha:a<i):key (gt (sw R i j) a)=key (gt R a):=by
 have:=h.bd
 have:=h.seg.len
 rw[Ch (by omega),A' (by omega),A' (by omega)]
structure PqE(key:α→Int)(L R:List α)(a b p pv:Nat):Prop where
 seg:Seg L R a b
 bd:a<p∧p≤b
 lo:∀q,a≤q→q<p→key (gt R q)≤key (gt L pv)
 hi:∀q,p≤q→q<b→key (gt L pv)<key (gt R q)
theorem B4B{L R:List α}{a b i j pv:Nat}(h:PqI key L R a b i j)(he:key (gt R a)=key (gt L pv))(hij:j<i):PqE key L R a b i pv:=by
 have hbd:=h.bd
 refine⟨h.seg,by omega,fun q d c=>?_,fun q d c=>?_⟩
 ·rw[←he]
  by_cases f:a=q
  ·subst f;exact Si _
  ·exact h.lo q (by omega) c
 ·rw[←he];exact h.hi q (by omega) c
theorem B5x{R Q:List α}{a b x y p pv:Nat}(h:Out key R a b x y)(hxy:a≤x∧x<y∧y≤b∧b≤R.length)(hE:PqE key R Q x y p pv)(hL:Lb key R x y)(h0:0<x)(hc:¬key (gt R (x-1))<key (gt R pv)):Out key Q a b p y:=by
 have q:=hE.bd
 have d:=h.seg hE.seg (by omega)
 have f:=hL.seg hE.seg (by omega) h0
 have g:=hE.seg.out (x-1) (by omega) (by omega)
 intro u v k l m s
 by_cases n:u<x∨y≤v
 ·exact d u v k l m n
 ·have r:=hE.lo u (by omega) (by omega)
  have c:=f v (by omega) (by omega)
  rw[g]at c
  by_cases o:v<p
  ·omega
  ·have:=hE.hi v (by omega) (by omega);omega
theorem QT{R Q Q':List α}{a b x y p:Nat}(h:Out key R a b x y)(hxy:a≤x∧x<y∧y≤b∧b≤R.length)(hE:PtE key R Q x y p)(hs:Seg Q Q' x p)(ht:Srt key Q' x p):Out key Q' a b (p+1) y:=by
 have n:=hE.bd
 have o:=hE.seg.len
 have g:=(h.seg hE.seg (by omega)).seg (hs.wide (E' _) (by omega:p≤y) (by omega)) (by omega)
 have ep:gt Q' p=gt Q p:=hs.out p (by omega) (by omega)
 have hlo:∀q,x≤q→q<p→key (gt Q' q)≤key (gt Q' p):=by
  rw[ep];exact hs.all (fun e=>key e≤key (gt Q p)) fun q c d=>TW (hE.lo q c d)
 have hhi:∀q,p<q→q<y→key (gt Q' p)≤key (gt Q' q):=fun q c d=>by
  rw[ep,hs.out q (by omega) (by omega)];exact hE.hi q c d
 intro u v k f l r
 by_cases m:u<x∨y≤v
 ·exact g u v k f l m
 ·rcases Nat.lt_trichotomy v p with h9|h9|h9
  ·exact ht u v (by omega) f h9
  ·subst h9;exact hlo u (by omega) f
  ·rcases TG (show u≤p by omega)with h10|h10
   ·exact TX (hlo u (by omega) h10) (hhi v h9 (by omega))
   ·subst h10;exact hhi v h9 (by omega)
theorem Qe{R Q Q':List α}{a b x y p:Nat}(h:Out key R a b x y)(hxy:a≤x∧x<y∧y≤b∧b≤R.length)(hE:PtE key R Q x y p)(hs:Seg Q Q' (p+1) y)(ht:Srt key Q' (p+1) y):Out key Q' a b x p:=by
 have n:=hE.bd
 have o:=hE.seg.len
 have g:=(h.seg hE.seg (by omega)).seg (hs.wide (by omega:x≤p+1) (E' _) (by omega)) (by omega)
 have ep:gt Q' p=gt Q p:=hs.out p (by omega) (by omega)
 have hhi:∀q,p+1≤q→q<y→key (gt Q' p)≤key (gt Q' q):=by
  rw[ep];exact hs.all (fun e=>key (gt Q p)≤key e) fun q d c=>hE.hi q (by omega) c
 have hlo:∀q,x≤q→q<p→key (gt Q' q)≤key (gt Q' p):=fun q d c=>by
  rw[ep,hs.out q (by omega) (by omega)];exact TW (hE.lo q d c)
 intro u v k f l r
 by_cases m:u<x∨y≤v
 ·exact g u v k f l m
 ·rcases Nat.lt_trichotomy u p with h9|h9|h9
  ·rcases TG (show p≤v by omega)with h10|h10
   ·exact TX (hlo u (by omega) h9) (hhi v (by omega) (by omega))
   ·subst h10;exact hlo u (by omega) h9
  ·subst h9;exact hhi v (by omega) (by omega)
  ·exact ht u v (by omega) f (by omega)
theorem PtE.lbL{R Q:List α}{x y p:Nat}(hE:PtE key R Q x y p)(hL:Lb key R x y)(hl:y≤R.length):Lb key Q x p:=(hL.seg hE.seg (by have:=hE.bd;omega)).sub (by have:=hE.bd;omega)
theorem PtE.lbR{R Q:List α}{x y p:Nat}(hE:PtE key R Q x y p):Lb key Q (p+1) y:=fun _ q b a=>hE.hi q (by omega) a
theorem Srt.seg{R Q:List α}{a b x y:Nat}(h:Srt key R a b)(hs:Seg R Q x y)(hx:b≤x)(hb:b≤R.length):Srt key Q a b:=fun p q c d f=>by
 rw[hs.out p (by omega) (by omega),hs.out q (by omega) (by omega)];exact h p q c d f
theorem Srt.more{R:List α}{a i:Nat}(h:Srt key R a i)(hc:¬key (gt R i)<key (gt R (i-1))):Srt key R a (i+1):=fun p q b c g=>by
 by_cases d:q=i
 ·subst d
  have:=h.le (p:=p) (q:=q-1)
  by_cases f:p=q-1
  ·subst f;omega
  ·have:=h p (q-1) b (by omega) (by omega);omega
 ·exact h p q b c (by omega)
theorem Srt.swp{R:List α}{a x:Nat}(h:Srt key R a x)(hx:x<R.length):Srt key (sw R x (x-1)) a (x-1):=fun p q b c d=>by
 rw[Ch (by omega),Ch (by omega),A' (by omega),A' (by omega),A' (by omega),A' (by omega)]
 exact h p q b c (by omega)
theorem Srt.out{R:List α}{a b x i j:Nat}(h:Srt key R a x)(hi:x≤i∧i<b)(hj:x≤j∧j<b)(hb:b≤R.length):Srt key (sw R i j) a x:=h.seg (.sw (a:=x) (b:=b) hi hj hb) (E' _) (by omega)
end
def I3(l:List Span)(n:Int):Prop:=∃s∈l,s.Lo≤n∧n≤s.Hi
theorem W4(n:Int):¬I3 [] n:=fun⟨_,h,_⟩=>by cases h
theorem P3{s:Span}{l:List Span}{n:Int}:I3 (s::l) n↔(s.Lo≤n∧n≤s.Hi)∨I3 l n:=by
 constructor
 ·rintro⟨x,a,h⟩
  rcases Sn.1 a with rfl|a
  ·exact .inl h
  ·exact .inr ⟨x,a,h⟩
 ·rintro(h|⟨x,a,h⟩)
  ·exact⟨s,Sf ..,h⟩
  ·exact⟨x,Sg _ a,h⟩
theorem AG{l r:List Span}{n:Int}:I3 (l++r) n↔I3 l n∨I3 r n:=by
 constructor
 ·rintro⟨x,a,h⟩
  rcases Sa.1 a with a|a
  ·exact .inl ⟨x,a,h⟩
  ·exact .inr ⟨x,a,h⟩
 ·rintro(⟨x,a,h⟩|⟨x,a,h⟩)
  ·exact⟨x,Sk _ a,h⟩
  ·exact⟨x,Sx _ a,h⟩
theorem PM{l r:List Span}(h:l.Perm r){n:Int}:I3 l n↔I3 r n:=
 ⟨fun⟨x,a,b⟩=>⟨x,h.mem_iff.1 a,b⟩,fun⟨x,a,b⟩=>⟨x,h.mem_iff.2 a,b⟩⟩
def Can:List Span→Prop
 | []=>True
 | [s]=>s.Lo≤s.Hi
 |s::t::r=>s.Lo≤s.Hi∧s.Hi+1<t.Lo∧Can (t::r)
theorem Can.head{s:Span}{r:List Span}(h:Can (s::r)):s.Lo≤s.Hi:=by
 cases r with
 |nil=>exact h
 |cons t r=>exact h.1
theorem Can.tail{s:Span}{r:List Span}(h:Can (s::r)):Can r:=by
 cases r with
 |nil=>trivial
 |cons t r=>exact h.2.2
theorem CW{s:Span}:∀{r:List Span},Can (s::r)→∀n,I3 r n→s.Hi+1<n
 | [],_,n,hn=>absurd hn (W4 n)
 |t::r,h,n,hn=>by
  have h1:=h.2.1
  rcases P3.1 hn with h2|h2
  ·omega
  ·have a:=CW h.2.2 n h2
   have b:=h.2.2.head
   omega
theorem A1T:∀{l r:List Span},Can l→Can r→(∀n,I3 l n↔I3 r n)→l=r
 | [],[],_,_,_=>rfl
 | [],t::r,_,hr,h=>absurd ((h t.Lo).2 (P3.2 (.inl ⟨Si _,hr.head⟩))) (W4 _)
 |s::l,[],hl,_,h=>absurd ((h s.Lo).1 (P3.2 (.inl ⟨Si _,hl.head⟩))) (W4 _)
 |s::l,t::r,hl,hr,h=>by
  have hs:=hl.head
  have k:=hr.head
  have al:=CW hl
  have ar:=CW hr
  have e:∀n,((s.Lo≤n∧n≤s.Hi)∨I3 l n)↔((t.Lo≤n∧n≤t.Hi)∨I3 r n):=fun n=>by rw[←P3,←P3];exact h n
  have d:s.Lo=t.Lo:=by
   have b:=(e s.Lo).1 (.inl ⟨Si _,hs⟩)
   have a:=(e t.Lo).2 (.inl ⟨Si _,k⟩)
   have c:=al t.Lo
   have f:=ar s.Lo
   rcases b with b|b <;> rcases a with a|a
   ·omega
   ·have:=c a;omega
   ·have:=f b;omega
   ·have:=c a;have:=f b;omega
  have g:s.Hi=t.Hi:=by
   rcases Int.lt_trichotomy s.Hi t.Hi with b|b|b
   ·rcases(e (s.Hi+1)).2 (.inl ⟨by omega,by omega⟩)with a|a
    ·omega
    ·have:=al _ a;omega
   ·exact b
   ·rcases(e (t.Hi+1)).1 (.inl ⟨by omega,by omega⟩)with a|a
    ·omega
    ·have:=ar _ a;omega
  obtain rfl:s=t:=by cases s;cases t;simp only at d g;rw[d,g]
  rw[A1T hl.tail hr.tail fun n=>by
   have b:=e n
   constructor
   ·intro a
    rcases b.1 (.inr a)with c|c
    ·have:=al n a;omega
    ·exact c
   ·intro a
    rcases b.2 (.inr a)with c|c
    ·have:=ar n a;omega
    ·exact c]
def Bi(l:List Span)(x:Span):List Span:=if 0<l.length∧x.Lo≤(gt l (l.length-1)).Hi+1 then l.set (l.length-1) ⟨(gt l (l.length-1)).Lo,max (gt l (l.length-1)).Hi x.Hi⟩else l++[x]
def C4(l:List Span):List Span:=l.foldl Bi []
theorem Eo(l:List Span)(x:Span):C4 (l++[x])=Bi (C4 l) x:=by unfold C4;rw[List.foldl_append];rfl
theorem Hu:∀{l:List Span} {x:Span},Can (l++[x])↔Can l∧x.Lo≤x.Hi∧(0<l.length→(gt l (l.length-1)).Hi+1<x.Lo)
 | [],x=>⟨fun h=>⟨trivial,h,fun h=>absurd h (Tb _)⟩,fun h=>h.2.1⟩
 | [s],x=>⟨fun h=>⟨h.1,h.2.2,fun _=>h.2.1⟩,fun h=>⟨h.1,h.2.2 (by simp),h.2.1⟩⟩
 |s::t::r,x=>by
  have ih:=Hu (l:=t::r) (x:=x)
  have e:(gt (s::t::r) ((s::t::r).length-1))=gt (t::r) ((t::r).length-1):=rfl
  rw[e]
  constructor
  ·intro h
   have a:=ih.1 h.2.2
   exact⟨⟨h.1,h.2.1,a.1⟩,a.2.1,fun _=>a.2.2 (by simp)⟩
  ·intro h
   exact⟨h.1.1,h.1.2.1,ih.2 ⟨h.1.2.2,h.2.1,fun _=>h.2.2 (by simp)⟩⟩
theorem Fh{α:Type}[Inhabited α](l:List α)(h:0<l.length):∃r x,l=r++[x]:=by
 rcases List.eq_nil_or_concat l with rfl|⟨r,x,rfl⟩
 ·simp at h
 ·exact⟨r,x,by simp⟩
theorem JL{α:Type}[Inhabited α](r:List α)(x:α):gt (r++[x]) ((r++[x]).length-1)=x:=by
 simp[gt,List.getD]
theorem A7X{α:Type}(r:List α)(x y:α):(r++[x]).set ((r++[x]).length-1) y=r++[y]:=by
 simp
structure MrgI(l d:List Span):Prop where
 can:Can d
 has:∀n,I3 d n↔I3 l n
 low:∀s,0<d.length→(∀x∈l,x.Lo≤s)→(gt d (d.length-1)).Lo≤s
theorem A7Q:MrgI [] []:=⟨trivial,fun _=>.rfl,fun _ h=>absurd h (Tb _)⟩
theorem A6L{l d:List Span}{x:Span}(h:MrgI l d)(hx:x.Lo≤x.Hi)(hs:∀y∈l,y.Lo≤x.Lo):MrgI (l++[x]) (Bi d x):=by
 have b:∀s,(∀y∈l++[x],y.Lo≤s)→x.Lo≤s:=fun s a=>a x (by simp)
 unfold Bi
 by_cases c:0<d.length
 ·have k:=h.low x.Lo c hs
  obtain⟨r,z,rfl⟩:=Fh d c
  rw[JL,A7X]at*
  have m:=Hu.1 h.can
  split
  ·rename_i f
   refine⟨Hu.2 ⟨m.1,by show z.Lo≤max z.Hi x.Hi;omega,m.2.2⟩,fun n=>?_,fun s _ a=>?_⟩
   ·rw[AG,AG,←h.has n,AG,P3,P3,P3]
    constructor
    ·rintro(h2|h2|h2)
     ·exact .inl (.inl h2)
     ·have g:z.Lo≤n∧n≤max z.Hi x.Hi:=h2
      by_cases o:n≤z.Hi
      ·exact .inl (.inr (.inl ⟨g.1,o⟩))
      ·exact .inr (.inl (by omega))
     ·exact absurd h2 (W4 _)
    ·rintro((h2|h2|h2)|h2|h2)
     ·exact .inl h2
     ·exact .inr (.inl (show z.Lo≤n∧n≤max z.Hi x.Hi by omega))
     ·exact absurd h2 (W4 _)
     ·exact .inr (.inl (show z.Lo≤n∧n≤max z.Hi x.Hi by omega))
     ·exact absurd h2 (W4 _)
   ·rw[JL];have:=b s a;show z.Lo≤s;omega
  ·rename_i f
   refine⟨Hu.2 ⟨h.can,hx,fun _=>by rw[JL];omega⟩,fun n=>?_,fun s _ a=>?_⟩
   ·rw[AG,AG (l:=l),h.has n]
   ·rw[JL];exact b s a
 ·obtain rfl:d=[]:=by cases d with
   |nil=>rfl
   |cons _ _=>simp at c
  rw[A' (fun f=>c f.1)]
  refine⟨hx,fun n=>?_,fun s _ a=>b s a⟩
  exact(AG.trans (or_congr_left (h.has n))).trans AG.symm
theorem La{R:List Span}(hv:∀s∈R,s.Lo≤s.Hi)(hs:R.Pairwise (fun a b=>a.Lo≤b.Lo)):MrgI R (C4 R):=by
 induction hn:R.length generalizing R with
 |zero=>obtain rfl:=UG.1 hn;exact A7Q
 |succ n ih=>
  obtain⟨r,x,rfl⟩:=Fh R (by omega)
  rw[Eo]
  have c:=List.pairwise_append.1 hs
  exact A6L (ih (fun s h=>hv s (Sk _ h)) c.1 (by simpa using hn)) (hv x (by simp)) fun y d=>c.2.2 y d x (by simp)
def NT(x:Span):List Span→List Span
 | []=>[x]
 |y::r=>if x.Lo≤y.Lo then x::y::r else y::NT x r
def NF:List Span→List Span
 | []=>[]
 |x::r=>NT x (NF r)
theorem Jy(x:Span):∀l,(NT x l).Perm (x::l)
 | []=>.refl _
 |y::r=>by
  unfold NT
  split
  ·exact .refl _
  ·exact((Jy x r).cons y).trans (.swap ..)
theorem Ap:∀l,(NF l).Perm l
 | []=>.refl _
 |x::r=>(Jy x _).trans ((Ap r).cons x)
theorem Kt{x:Span}:∀{l:List Span},l.Pairwise (fun a b=>a.Lo≤b.Lo)→(NT x l).Pairwise (fun a b=>a.Lo≤b.Lo)
 | [],_=>List.pairwise_singleton _ _
 |y::r,h=>by
  unfold NT
  have h1:=List.pairwise_cons.1 h
  split
  ·rename_i h2
   refine List.pairwise_cons.2 ⟨fun z c=>?_,h⟩
   rcases Sn.1 c with rfl|c
   ·exact h2
   ·have:=h1.1 z c;omega
  ·rename_i h2
   refine List.pairwise_cons.2 ⟨fun z c=>?_,Kt h1.2⟩
   rcases Sn.1 ((Jy x r).mem_iff.1 c)with rfl|c
   ·omega
   ·exact h1.1 z c
theorem Jb:∀l,(NF l).Pairwise (fun a b=>a.Lo≤b.Lo)
 | []=>.nil
 |_::r=>Kt (Jb r)
def K4(l:List Span):List Span:=C4 (NF l)
theorem Lk{l:List Span}(hv:∀s∈l,s.Lo≤s.Hi):MrgI (NF l) (K4 l):=La (fun s h=>hv s ((Ap l).mem_iff.1 h)) (Jb l)
theorem EW{l:List Span}(hv:∀s∈l,s.Lo≤s.Hi):Can (K4 l):=(Lk hv).can
theorem HR{l:List Span}(hv:∀s∈l,s.Lo≤s.Hi)(n:Int):I3 (K4 l) n↔I3 l n:=((Lk hv).has n).trans (PM (Ap l))
theorem HN{l R:List Span}(hp:R.Perm l)(hs:Srt Span.Lo R 0 R.length)(hv:∀s∈l,s.Lo≤s.Hi):C4 R=K4 l:=by
 have d:R.Pairwise (fun a b=>a.Lo≤b.Lo):=by
  rw[List.pairwise_iff_getElem]
  intro i j hi k f
  have c:=hs i j (EF _) f k
  have ei:gt R i=R[i]:=by simp[gt,List.getD,hi]
  have ej:gt R j=R[j]:=by simp[gt,List.getD,k]
  rwa [ei,ej]at c
 have c:=La (fun s h=>hv s (hp.mem_iff.1 h)) d
 have g:=Lk hv
 exact A1T c.can g.can fun n=>(c.has n).trans ((PM (hp.trans (Ap l).symm)).trans (g.has n).symm)
theorem Z3:∀{l:List Span},Can l→∀s∈l,s.Lo≤s.Hi
 | [],_,_,h=>by cases h
 |x::r,hc,s,h=>by
  rcases Sn.1 h with rfl|h
  ·exact hc.head
  ·exact Z3 hc.tail s h
def Cz(L:List Span):Prop:=∀q,-1000000000≤(gt L q).Lo∧(gt L q).Lo≤1000000000
def Lp(a b:Span):Int:=wr (a.Lo-b.Lo)
theorem LU{a b:Span}(ha: -1000000000≤a.Lo∧a.Lo≤1000000000)(hb: -1000000000≤b.Lo∧b.Lo≤1000000000):Lp a b<0↔a.Lo<b.Lo:=by
 unfold Lp
 rw[B5A (by omega) (by omega)]
 omega
theorem cl{R:List Span}(h:Cz R){i j:Nat}:Lp (gt R i) (gt R j)<0↔(gt R i).Lo<(gt R j).Lo:=LU (h i) (h j)
theorem MA{L:List Span}(h:∀s∈L,-1000000000≤s.Lo∧s.Lo≤1000000000):Cz L:=fun q=>by
 by_cases a:q<L.length
 ·exact h _ (M0 a)
 ·have:gt L q=default:=by simp[gt,List.getD,Sm (Nat.le_of_not_lt a)]
  rw[this];decide
theorem K8{L R:List Span}(h:Cz L)(hp:R.Perm L):Cz R:=MA fun s a=>by
 obtain⟨i,_,e⟩:=Z6 (hp.mem_iff.1 a)
 rw[←e];exact h i
theorem Cx{L:List Span}(h:Cz L)(i j:Nat):Cz (sw L i j):=MA fun s a=>by
 rcases Uk a with h1|rfl
 ·rcases Uk h1 with h2|rfl
  ·obtain⟨i,_,e⟩:=Z6 h2;rw[←e];exact h i
  ·exact h j
 ·exact h i
section
variable{α:Type}
def EM [Inhabited α](Ls:List (List α)):Nat→List α
 |0=>[]
 |k+1=>EM Ls k++gt Ls k
variable[Inhabited α]
def Od(Ls:List (List α))(k:Nat):Nat:=(EM Ls k).length
theorem PH(Ls:List (List α))(k:Nat):Od Ls (k+1)=Od Ls k+(gt Ls k).length:=by unfold Od;rw[EM,F']
theorem Om{Ls:List (List α)}{c:Nat}(h:∀i,i<Ls.length→(gt Ls i).length≤c):∀k,k≤Ls.length→Od Ls k≤c*k
 |0,_=>EF _
 |k+1,hk=>by have h1:=Om h k (by omega);have a:=h k (by omega);rw[PH,Nat.mul_succ];omega
theorem A0v(A B:List α):EM [A,B] 2=A++B:=by show([]++A)++B=A++B;rw[Uc]
end
def M9(p:Pen):Prop:=(0≤p.Band∧p.Band≤8)∧(-200≤p.Zero.Lo∧p.Zero.Lo≤p.Zero.Hi)∧p.Zero.Hi≤200∧p.Zero.Hi-p.Zero.Lo≤40∧0≤p.Rate∧p.Rate≤12000
instance(p:Pen):Decidable (M9 p):=by unfold M9;exact inferInstance
def GI(p:Pen):Int:=if M9 p then 0 else 30
theorem RG{p:Pen}(h:M9 p):GI p=0:=D' h
theorem B2r{p:Pen}(h:¬M9 p):GI p=30:=A' h
theorem A1p{p:Pen}(h:GI p=0):M9 p:=by
 unfold GI at h;split at h
 ·assumption
 ·cases h
def FB(l:List Int):Prop:=∀i,i<l.length→-50000≤gt l i∧gt l i≤50000
instance(l:List Int):Decidable (FB l):=by unfold FB;exact inferInstance
def O2(l:List Int):Int:=if(1≤l.length∧l.length≤401)∧FB l then 0 else 1
theorem A9B{l:List Int}(h:O2 l=0):(1≤l.length∧l.length≤401)∧FB l:=by
 unfold O2 at h;split at h
 ·assumption
 ·cases h
def A1h(p:Pen)(l:List Int):Int:=if GI p≠0 then GI p else O2 l
def X0(p:Pen)(l:List Int):Int:=if GI p≠0 then GI p else if FB l then 0 else 1
def Jr(a b:Int):Int:=max (a-b) (b-a)
def inP(l:List Span)(n:Int):Prop:=∃i,i<l.length∧(gt l i).Lo≤n∧n≤(gt l i).Hi
instance(l:List Span)(n:Int):Decidable (inP l n):=by unfold inP;exact inferInstance
def B3B(x:Sheet):Prop:=(x.Trace.length≤12∧x.Blots.length≤8∧x.Drum.Rates.length≤5∧x.Drum.Stops.length≤4∧x.Pen.Band≤2∧x.Pen.Zero.Hi-x.Pen.Zero.Lo≤2)∧(∀i,i<x.Trace.length→(gt x.Trace i).Half≤2000)∧x.Paper.Height≤20000∧x.Paper.Pitch≤5000
instance(x:Sheet):Decidable (B3B x):=by unfold B3B;exact inferInstance
def OA(l:List Int):Nat→Nat→Int
 |0,_=> -1
 |n+1,i=>if-50000≤gt l i∧gt l i≤50000 then OA l n (i+1)else i
def Jq(l:List Int):Int:=OA l l.length 0
theorem Rs{l:List Int}{k:Nat}(hb:¬(-50000≤gt l k∧gt l k≤50000)):∀n i,i≤k→k<i+n→(∀j,i≤j→j<k→-50000≤gt l j∧gt l j≤50000)→OA l n i=k
 |0,i,h1,h2,_=>by omega
 |n+1,i,h1,h2,h3=>by
  rw[OA]
  by_cases hi:i=k
  ·subst hi;rw[A' hb]
  ·rw[D' (h3 i (E' _) (by omega))]
   exact Rs hb n (i+1) (by omega) (by omega) fun j hj=>h3 j (by omega)
theorem A2i{l:List Int}:∀n i,(∀j,i≤j→j<i+n→-50000≤gt l j∧gt l j≤50000)→OA l n i= -1
 |0,_,_=>rfl
 |n+1,i,h=>by rw[OA,D' (h i (E' _) (by omega))];exact A2i n (i+1) fun j h1 h2=>h j (by omega) (by omega)
theorem Dx{l:List Int}{k:Nat}(hk:k<l.length)(ha:∀j,j<k→-50000≤gt l j∧gt l j≤50000)(hb:¬(-50000≤gt l k∧gt l k≤50000)):Jq l=k:=Rs hb _ 0 (EF _) (by omega) fun j _=>ha j
theorem Ep{l:List Int}(ha:∀j,j<l.length→-50000≤gt l j∧gt l j≤50000):Jq l= -1:=A2i _ 0 fun j _ h=>ha j (by omega)
theorem Nm(l:List Int):0≤Jq l↔¬FB l:=by
 constructor
 ·intro h b;rw[Ep b]at h;omega
 ·intro h
  have:∃k,k<l.length∧(∀j,j<k→-50000≤gt l j∧gt l j≤50000)∧¬(-50000≤gt l k∧gt l k≤50000):=by
   apply Sj
   intro m
   have:∀n,n≤l.length→∀j,j<n→-50000≤gt l j∧gt l j≤50000:=by
    intro n
    induction n with
    |zero=>intro _ j c;omega
    |succ n ih=>
     intro b j c
     rcases Sc.1 c with a|a
     ·exact ih (by omega) j a
     ·subst a;exact Sj fun d=>m ⟨j,by omega,ih (by omega),d⟩
   exact h fun i hi=>this _ (E' _) i hi
  obtain⟨k,a,f,g⟩:=this
  rw[Dx a f g];omega
theorem Ff{a b c d:Int}(h1:a=c)(h2:b=d):Value.agg #[J a,J b]= .agg #[J c,J d]:=by rw[h1,h2]
theorem Pm{a b:Int}(hb:0<b)(h:a.tmod b<0):a.tdiv b-1=a/b:=by
 have d:a<0:=Sj fun c=>by have:=Int.tmod_nonneg b (show 0≤a by omega);omega
 rw[Int.tdiv_eq_ediv,A' (fun c=>by
  rcases c with h1|h1
  ·omega
  ·have:=Int.tmod_eq_zero_of_dvd h1;omega),Int.sign_eq_one_of_pos hb]
 omega
theorem QP{a b:Int}(h:¬a.tmod b<0):a.tdiv b=a/b:=by
 rw[Int.tdiv_eq_ediv,D' (by
  by_cases c:0≤a
  ·exact .inl c
  ·right
   apply Int.dvd_of_tmod_eq_zero
   have:=Int.tmod_nonneg b (show 0≤-a by omega)
   rw[Int.neg_tmod]at this
   omega)]
 omega
theorem B3f{a b B:Int}(h: -B≤a∧a≤B): -B≤a.tdiv b∧a.tdiv b≤B:=by
 have:=Int.natAbs_tdiv_le_natAbs a b
 omega
theorem GX{a b B:Int}(h: -B≤a∧a≤B)(hb:0<b)(hB:0≤B): -B≤a/b∧a/b≤B:=by
 constructor
 ·exact Int.le_ediv_of_mul_le hb (by
   have: -B*b≤-B*1:=Int.mul_le_mul_of_nonpos_left (by omega) (by omega)
   omega)
 ·exact Int.ediv_le_of_le_mul hb (by
   have:B*1≤B*b:=Int.mul_le_mul_of_nonneg_left (by omega) hB
   omega)
def CL(s:Span):Prop:=(900≤s.Lo∧s.Lo≤s.Hi)∧s.Hi≤1100
instance(s:Span):Decidable (CL s):=by unfold CL;exact inferInstance
def K6(p:Paper):Prop:=((1≤p.Pitch∧p.Pitch≤10000)∧(1≤p.Height∧p.Height≤400000)∧(p.Radius=0∨(p.Height≤p.Radius∧p.Radius≤4000000)))∧(0≤p.Low∧p.Low<p.High∧p.High≤12000∧p.High-p.Low≤p.Height)∧(1≤p.Columns∧p.Columns≤200)∧CL p.Along∧CL p.Across
instance(p:Paper):Decidable (K6 p):=by unfold K6;exact inferInstance
def BH(p:Paper):Int:=if K6 p then 0 else 10
theorem A3O{p:Paper}(h:K6 p):BH p=0:=D' h
theorem A6a{p:Paper}(h:¬K6 p):BH p=10:=A' h
theorem A5P{p:Paper}(h:BH p=0):K6 p:=by
 unfold BH at h;split at h
 ·assumption
 ·cases h
def O5(t:Point):Prop:=(0≤t.X∧t.X≤400000)∧(0≤t.Y∧t.Y≤400000)∧(0≤t.Half∧t.Half≤5000)
instance(t:Point):Decidable (O5 t):=by unfold O5;exact inferInstance
def Dv(l:List Point):Prop:=∀i,i<l.length→O5 (gt l i)
instance(l:List Point):Decidable (Dv l):=by unfold Dv;exact inferInstance
def Cy(l:List Point):Int:=if 2000<l.length then 2 else if Dv l then 0 else 11
theorem A3t{l:List Point}(h:2000<l.length):Cy l=2:=D' h
theorem A3A{l:List Point}(h:¬2000<l.length)(h1:Dv l):Cy l=0:=by rw[Cy,A' h,D' h1]
theorem A4D{l:List Point}(h:¬2000<l.length)(h1:¬Dv l):Cy l=11:=by rw[Cy,A' h,A' h1]
theorem A6C{l:List Point}(h:Cy l=0):l.length≤2000∧Dv l:=by
 unfold Cy at h;split at h
 ·cases h
 ·split at h
  ·exact⟨by omega,by assumption⟩
  ·cases h
def F2(n half:Int)(s:Span):Span:=⟨max 0 ((n-half)*1000/s.Hi),(n+half)*1000/s.Lo⟩
def Gz(f:Paper)(y:Int):Int:=if f.Radius=0 then 0 else y*(f.Height-y)/(2*f.Radius)
def T0(f:Paper)(y:Int):Int:=f.Low+y*(f.High-f.Low)/f.Height
theorem Oq{f:Paper}(h:K6 f){y:Int}(hy:0≤y∧y≤f.Height):0≤y*(f.Height-y)∧y*(f.Height-y)≤160000000000:=by
 have a:=h.1.2.1
 refine⟨Int.mul_nonneg hy.1 (by omega),?_⟩
 have b:y*(f.Height-y)≤400000*(f.Height-y):=TN (by omega) (by omega)
 omega
theorem RD{f:Paper}(h:K6 f){y:Int}(hy:0≤y∧y≤f.Height):0≤Gz f y∧Gz f y≤160000000000:=by
 have a:=Oq h hy
 unfold Gz
 split
 ·omega
 ·have b:0<2*f.Radius:=by have:=h.1;omega
  have c:=GX (B:=160000000000) (by omega: -160000000000≤y*(f.Height-y)∧y*(f.Height-y)≤160000000000) b (by omega)
  exact⟨TZ a.1 (by omega),c.2⟩
theorem Jd{f:Paper}(h:K6 f){y:Int}(hy:0≤y∧y≤f.Height):0≤y*(f.High-f.Low)∧y*(f.High-f.Low)≤4800000000∧y*(f.High-f.Low)≤f.Height*(f.High-f.Low):=by
 have a:=h.1.2.1
 have b:=h.2.1
 refine⟨Int.mul_nonneg hy.1 (by omega),?_,TN hy.2 (by omega)⟩
 have c:y*(f.High-f.Low)≤400000*(f.High-f.Low):=TN (by omega) (by omega)
 omega
theorem Oe{f:Paper}(h:K6 f){y:Int}(hy:0≤y∧y≤f.Height):0≤y*(f.High-f.Low)/f.Height∧y*(f.High-f.Low)/f.Height≤f.High-f.Low:=by
 have a:=Jd h hy
 have b:=h.1.2.1
 refine⟨TZ a.1 (by omega),?_⟩
 have:=TY (show 0<f.Height by omega) a.2.2
 rwa [UH _ (by omega)]at this
theorem Re{f:Paper}(h:K6 f){y:Int}(hy:0≤y∧y≤f.Height):0≤T0 f y∧T0 f y≤12000:=by
 have a:=Oe h hy
 have b:=h.2.1
 unfold T0;omega
theorem Y6{n half:Int}{s:Span}(hn:0≤n∧n≤400000)(hh:0≤half∧half≤5000)(hs:CL s):(0≤(F2 n half s).Lo∧(F2 n half s).Lo≤405000000)∧(0≤(F2 n half s).Hi∧(F2 n half s).Hi≤405000000):=by
 unfold CL at hs
 have c:=GX (a:=(n-half)*1000) (b:=s.Hi) (B:=405000000) (by omega) (by omega) (by omega)
 have d:=GX (a:=(n+half)*1000) (b:=s.Lo) (B:=405000000) (by omega) (by omega) (by omega)
 have f:0≤(n+half)*1000/s.Lo:=TZ (by omega) (by omega)
 unfold F2;dsimp only
 omega
def Cw(L:List Span):Prop:=∀s∈L,(0≤s.Lo∧s.Lo≤12000)∧0≤s.Hi∧s.Hi≤12000
theorem Rw{L:List Span}(h:Cw L){i:Nat}(hi:i<L.length):(0≤(gt L i).Lo∧(gt L i).Lo≤12000)∧0≤(gt L i).Hi∧(gt L i).Hi≤12000:=h _ (M0 hi)
theorem A1S:Cw []:=fun _ h=>by simp at h
theorem A7Z{L:List Span}{s:Span}(h:Cw L)(hs:(0≤s.Lo∧s.Lo≤12000)∧0≤s.Hi∧s.Hi≤12000):Cw (L++[s]):=fun x a=>by
 rcases Sa.1 a with h1|h1
 ·exact h x h1
 ·rw[Sp.1 h1];exact hs
theorem B0N{L:List Span}{s:Span}{i:Nat}(h:Cw L)(hs:(0≤s.Lo∧s.Lo≤12000)∧0≤s.Hi∧s.Hi≤12000):Cw (L.set i s):=fun x a=>by
 rcases Uk a with h1|h1
 ·exact h x h1
 ·rw[h1];exact hs
theorem NP{L M:List Span}(h:Cw L)(h':Cw M):Cw (L++M):=fun x a=>by
 rcases Sa.1 a with h1|h1
 ·exact h x h1
 ·exact h' x h1
theorem A0y{L M:List Span}(h:Cw L)(hp:M.Perm L):Cw M:=fun x a=>h x (hp.mem_iff.1 a)
def Dj(f:Paper)(t:Point):Int:=(F2 t.Y t.Half f.Across).Lo
def yHi(f:Paper)(t:Point):Int:=min (F2 t.Y t.Half f.Across).Hi f.Height
def Q8(f:Paper)(t:Point):Nat:=(yHi f t+1-Dj f t).toNat
def CG(f:Paper)(t:Point)(y:Int):Span:=⟨((F2 t.X t.Half f.Along).Lo-Gz f y)/f.Pitch,((F2 t.X t.Half f.Along).Hi-Gz f y)/f.Pitch⟩
abbrev yK(f:Paper)(t:Point)(i:Nat):Int:=Dj f t+(i:Int)
abbrev Ag(f:Paper)(t:Point)(i:Nat):Span:=CG f t (yK f t i)
def Qo(f:Paper)(t:Point):Nat→Mem→Array Value→Prop:=fun i _ a=>a=#[J (Dj f t+i),.agg [J (CG f t (Dj f t+i)).Lo,J (CG f t (Dj f t+i)).Hi].toArray]
theorem A7D{f:Paper}{t:Point}{k:Nat}{y a b:Int}(h1:y=Dj f t+k)(h2:a=(CG f t y).Lo)(h3:b=(CG f t y).Hi)(m:Mem):Qo f t k m #[J y,.agg [J a,J b].toArray]:=by subst h1 h2 h3;rfl
theorem A4S{f:Paper}{t:Point}(hf:K6 f)(ht:O5 t):0≤Dj f t∧Dj f t≤405000000∧yHi f t≤f.Height:=by
 unfold O5 at ht
 have h:=Y6 ht.2.1 ht.2.2 hf.2.2.2.2
 unfold Dj yHi
 omega
theorem A6P{f:Paper}{t:Point}(hf:K6 f)(ht:O5 t){k:Nat}(hk:k<Q8 f t):0≤Dj f t+k∧Dj f t+k≤f.Height:=by
 have:=A4S hf ht
 unfold Q8 at hk
 omega
theorem B1u{f:Paper}{t:Point}(hf:K6 f)(ht:O5 t){y:Int}(hy:0≤y∧y≤f.Height):(-1000000000000≤(CG f t y).Lo∧(CG f t y).Lo≤1000000000000)∧(-1000000000000≤(CG f t y).Hi∧(CG f t y).Hi≤1000000000000):=by
 have a:=RD hf hy
 unfold O5 at ht
 have h:=Y6 ht.1 ht.2.2 hf.2.2.2.1
 have b:=hf.1.1
 unfold CG
 exact⟨GX (by omega) (by omega) (by omega),GX (by omega) (by omega) (by omega)⟩
def Bd(p:Paper)(l:List Point):Int:=if BH p≠0 then BH p else Cy l
theorem OT{p:Paper}{l:List Point}(h:BH p≠0):Bd p l=BH p:=D' h
theorem A7p{p:Paper}{l:List Point}(h:¬BH p≠0):Bd p l=Cy l:=A' h
theorem A9o{p:Paper}{l:List Point}(h:Bd p l=0):K6 p∧l.length≤2000∧Dv l:=by
 unfold Bd at h
 split at h
 ·contradiction
 ·exact⟨A5P (by omega),A6C h⟩
end Go.Proofs.T10
