import Derived.Test.YtooomcigmleneaaGreatKyP
set_option linter.all false
namespace Go.Proofs.T10
open Go Go.Kx
def BF(b s r:Int):Int:=min (max s (r-b)) (r+b)
structure ShownN(b:Int)(L D:List Int)(n:Nat):Prop where
 first:gt L 0-b≤gt D 0∧gt D 0≤gt L 0+b
 next:∀i,i<n→gt D (i+1)=BF b (gt D i) (gt L (i+1))
section
variable{α:Type}[Inhabited α]
theorem M0{L:List α}{i:Nat}(hi:i<L.length):gt L i∈L:=Ta (S9 hi)
theorem Z6{L:List α}{x:α}(h:x∈L):∃i,i<L.length∧gt L i=x:=by
 obtain⟨i,hi,rfl⟩:=List.mem_iff_getElem.1 h
 exact⟨i,hi,by have:=S9 hi;rw[Sy hi]at this;exact(Uv this).symm⟩
theorem Fu(L:List α){i q:Nat}(v:α)(hq:q<L.length):gt (L.set i v) q=if i=q then v else gt L q:=by
 simp only[gt,List.getD,SR]
 split
 ·rename_i h;subst h;simp[hq]
 ·rfl
def sw(R:List α)(i j:Nat):List α:=(R.set i (gt R j)).set j (gt R i)
theorem B4F(R:List α)(i j:Nat):(sw R i j).length=R.length:=by unfold sw;simp
theorem Ch{R:List α}{i j q:Nat}(hq:q<R.length):gt (sw R i j) q=if j=q then gt R i else if i=q then gt R j else gt R q:=by
 unfold sw
 rw[Fu _ _ (by rw[I'];exact hq),Fu _ _ hq]
theorem A1w{R:List α}{i j:Nat}(hi:i<R.length)(hj:j<R.length):(sw R i j).Perm R:=by
 have ei:gt R i=R[i]:=by have:=S9 hi;rw[Sy hi]at this;exact(Uv this).symm
 have ej:gt R j=R[j]:=by have:=S9 hj;rw[Sy hj]at this;exact(Uv this).symm
 unfold sw
 rw[ei,ej]
 exact List.set_set_perm hi hj
theorem I1{L R:List α}{i j:Nat}(h:R.Perm L)(hi:i<L.length)(hj:j<L.length):(sw R i j).Perm L:=(A1w (by rw[h.length_eq];exact hi) (by rw[h.length_eq];exact hj)).trans h
variable(key:α→Int)
def Srt(R:List α)(a b:Nat):Prop:=∀p q,a≤p→p<q→q<b→key (gt R p)≤key (gt R q)
theorem Srt.one(R:List α)(a:Nat):Srt key R a (a+1):=fun p q b c d=>by omega
structure InsI(L R:List α)(a i j:Nat):Prop where
 perm:R.Perm L
 bd:a≤j∧j≤i∧i<L.length
 srt:∀p q,a≤p→p<q→q≤i→p≠j→q≠j→key (gt R p)≤key (gt R q)
 at':∀q,j<q→q≤i→key (gt R j)≤key (gt R q)
variable{key}
theorem A5b{L R:List α}{a i:Nat}(h:R.Perm L)(hs:Srt key R a i)(hi:a≤i∧i<L.length):InsI key L R a i i:=
 ⟨h,by omega,fun p q b c d _ f=>hs p q b c (by omega),fun q b c=>by omega⟩
theorem A7W{L R:List α}{a i j:Nat}(h:InsI key L R a i j)(ha:a<j)(hc:key (gt R j)<key (gt R (j-1))):InsI key L (sw R j (j-1)) a i (j-1):=by
 have hbd:=h.bd
 have m:=h.perm.length_eq
 have e:∀q,q<R.length→gt (sw R j (j-1)) q=if j-1=q then gt R j else if j=q then gt R (j-1)else gt R q:=fun q b=>Ch b
 refine⟨I1 h.perm (by omega) (by omega),by omega,fun p q c d f k l=>?_,fun q c d=>?_⟩
 ·rw[e p (by omega),e q (by omega),A' (show¬j-1=p by omega),A' (show¬j-1=q by omega)]
  by_cases g:j=p
  ·rw[D' g,A' (show¬j=q by omega)]
   exact h.srt (j-1) q (by omega) (by omega) f (by omega) (by omega)
  ·rw[A' g]
   by_cases b:j=q
   ·rw[D' b];exact h.srt p (j-1) c (by omega) (by omega) (by omega) (by omega)
   ·rw[A' b];exact h.srt p q c d f (by omega) (by omega)
 ·rw[e (j-1) (by omega),e q (by omega),D' rfl,A' (by omega)]
  by_cases b:j=q
  ·rw[D' b];omega
  ·rw[A' b];exact h.at' q (by omega) d
theorem A1k{L R:List α}{a i j:Nat}(h:InsI key L R a i j)(hc:a<j→¬key (gt R j)<key (gt R (j-1))):R.Perm L∧Srt key R a (i+1):=by
 have hbd:=h.bd
 refine⟨h.perm,fun p q c d g=>?_⟩
 by_cases f:q=j
 ·subst f
  have k:=hc (by omega)
  by_cases b:p=q-1
  ·subst b;omega
  ·have:=h.srt p (q-1) c (by omega) (by omega) (by omega) (by omega);omega
 ·by_cases b:p=j
  ·subst b;exact h.at' q d (by omega)
  ·exact h.srt p q c d (by omega) b f
end
theorem A7T{A C:List Int}(h:A.Perm C):A.foldr (· + ·) 0=C.foldr (· + ·) 0:=by
 induction h with
 |nil=>rfl
 |cons x _ ih=>simp only[Up,ih]
 |swap x y l=>simp only[Up];omega
 |trans _ _ h1 h2=>exact h1.trans h2
theorem A6M{x y z:Int}{R:List Int}(hp:R.Perm [x,y,z])(hs:Srt id R 0 3):gt R 1=max (min x y) (min (max x y) z):=by
 have g:=hp.length_eq
 obtain⟨a,b,c,rfl⟩:∃a b c,R=[a,b,c]:=by
  match R,g with
  | [a,b,c],_=>exact⟨a,b,c,rfl⟩
 have d:=hs 0 1 (by omega) (by omega) (by omega)
 have f:=hs 1 2 (by omega) (by omega) (by omega)
 simp only[gt,List.getD,id]at d f
 show b=_
 replace d:a≤b:=d
 replace f:b≤c:=f
 have m:∀t:Int,t∈[a,b,c]↔t∈[x,y,z]:=fun t=>hp.mem_iff
 have s:a+b+c=x+y+z:=by
  have:=A7T hp
  simp only[Up,List.foldr_nil]at this;omega
 have k:=(m x).2 (by simp)
 have l:=(m y).2 (by simp)
 have n:=(m z).2 (by simp)
 have o:=(m a).1 (by simp)
 have p:=(m b).1 (by simp)
 have q:=(m c).1 (by simp)
 simp only[Sn,Td,or_false]at k l n o p q
 omega
end Go.Proofs.T10
