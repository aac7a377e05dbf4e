import Derived.Test.YtooomcigmleneaaGreatKxW
import Derived.Test.YtooomcigmleneaaGreatKxU
import Derived.Test.YtooomcigmleneaaGreatKyP
import Derived.Test.YtooomcigmleneaaGreatKxL
set_option linter.all false
namespace Go.Proofs.T10
open Go Go.Kx
def Z6(b s r:Int):Int:=min (max s (r-b)) (r+b)
structure ShownN(b:Int)(L D:List Int)(n:Nat):Prop where
 first:gt L 0-b≤gt D 0∧gt D 0≤gt L 0+b
 next:∀i,i<n→gt D (i+1)=Z6 b (gt D i) (gt L (i+1))
end Go.Proofs.T10
namespace Go.Proofs.T10
open Go Go.Kx
section
variable{α:Type}[Inhabited α]
theorem A2P{L:List α}{i:Nat}(hi:i<L.length):gt L i∈L:=List.mem_of_getElem? (A0W hi)
theorem A4m{L:List α}{x:α}(h:x∈L):∃i,i<L.length∧gt L i=x:=by
 obtain⟨i,hi,rfl⟩:=List.mem_iff_getElem.1 h
 exact⟨i,hi,by have:=A0W hi;rw[List.getElem?_eq_getElem hi]at this;exact(Option.some.inj this).symm⟩
theorem B0z(L:List α){i q:Nat}(v:α)(hq:q<L.length):gt (L.set i v) q=if i=q then v else gt L q:=by
 simp only[gt,List.getD,List.getElem?_set]
 split
 ·rename_i h;subst h;simp[hq]
 ·rfl
def sw(R:List α)(i j:Nat):List α:=(R.set i (gt R j)).set j (gt R i)
theorem C5v(R:List α)(i j:Nat):(sw R i j).length=R.length:=by unfold sw;simp
theorem A1q{R:List α}{i j q:Nat}(hq:q<R.length):gt (sw R i j) q=if j=q then gt R i else if i=q then gt R j else gt R q:=by
 unfold sw
 rw[B0z _ _ (by rw[List.length_set];exact hq),B0z _ _ hq]
theorem B5d{R:List α}{i j:Nat}(hi:i<R.length)(hj:j<R.length):(sw R i j).Perm R:=by
 have ei:gt R i=R[i]:=by have:=A0W hi;rw[List.getElem?_eq_getElem hi]at this;exact(Option.some.inj this).symm
 have ej:gt R j=R[j]:=by have:=A0W hj;rw[List.getElem?_eq_getElem hj]at this;exact(Option.some.inj this).symm
 unfold sw
 rw[ei,ej]
 exact List.set_set_perm hi hj
theorem G6{L R:List α}{i j:Nat}(h:R.Perm L)(hi:i<L.length)(hj:j<L.length):(sw R i j).Perm L:=(B5d (by rw[h.length_eq];exact hi) (by rw[h.length_eq];exact hj)).trans h
variable(key:α→Int)
def Srt(R:List α)(a b:Nat):Prop:=∀p q,a≤p→p<q→q<b→key (gt R p)≤key (gt R q)
theorem Srt.one(R:List α)(a:Nat):Srt key R a (a+1):=fun p q h1 h2 h3=>by omega
structure InsI(L R:List α)(a i j:Nat):Prop where
 perm:R.Perm L
 bd:a≤j∧j≤i∧i<L.length
 srt:∀p q,a≤p→p<q→q≤i→p≠j→q≠j→key (gt R p)≤key (gt R q)
 at':∀q,j<q→q≤i→key (gt R j)≤key (gt R q)
variable{key}
theorem B9J{L R:List α}{a i:Nat}(h:R.Perm L)(hs:Srt key R a i)(hi:a≤i∧i<L.length):InsI key L R a i i:=
 ⟨h,by omega,fun p q h1 h2 h3 _ h5=>hs p q h1 h2 (by omega),fun q h1 h2=>by omega⟩
theorem C2p{L R:List α}{a i j:Nat}(h:InsI key L R a i j)(ha:a<j)(hc:key (gt R j)<key (gt R (j-1))):InsI key L (sw R j (j-1)) a i (j-1):=by
 have hbd:=h.bd
 have hl:=h.perm.length_eq
 have e:∀q,q<R.length→gt (sw R j (j-1)) q=if j-1=q then gt R j else if j=q then gt R (j-1)else gt R q:=fun q hq=>A1q hq
 refine⟨G6 h.perm (by omega) (by omega),by omega,fun p q h1 h2 h3 h4 h5=>?_,fun q h1 h2=>?_⟩
 ·rw[e p (by omega),e q (by omega),if_neg (show¬j-1=p by omega),if_neg (show¬j-1=q by omega)]
  by_cases hp:j=p
  ·rw[if_pos hp,if_neg (show¬j=q by omega)]
   exact h.srt (j-1) q (by omega) (by omega) h3 (by omega) (by omega)
  ·rw[if_neg hp]
   by_cases hq:j=q
   ·rw[if_pos hq];exact h.srt p (j-1) h1 (by omega) (by omega) (by omega) (by omega)
   ·rw[if_neg hq];exact h.srt p q h1 h2 h3 (by omega) (by omega)
 ·rw[e (j-1) (by omega),e q (by omega),if_pos rfl,if_neg (by omega)]
  by_cases hq:j=q
  ·rw[if_pos hq];omega
  ·rw[if_neg hq];exact h.at' q (by omega) h2
theorem B4V{L R:List α}{a i j:Nat}(h:InsI key L R a i j)(hc:a<j→¬key (gt R j)<key (gt R (j-1))):R.Perm L∧Srt key R a (i+1):=by
 have hbd:=h.bd
 refine⟨h.perm,fun p q h1 h2 h3=>?_⟩
 by_cases hq:q=j
 ·subst hq
  have h4:=hc (by omega)
  by_cases hp:p=q-1
  ·subst hp;omega
  ·have:=h.srt p (q-1) h1 (by omega) (by omega) (by omega) (by omega);omega
 ·by_cases hp:p=j
  ·subst hp;exact h.at' q h2 (by omega)
  ·exact h.srt p q h1 h2 (by omega) hp hq
end
theorem C1D{A C:List Int}(h:A.Perm C):A.foldr (· + ·) 0=C.foldr (· + ·) 0:=by
 induction h with
 |nil=>rfl
 |cons x _ ih=>simp only[List.foldr_cons,ih]
 |swap x y l=>simp only[List.foldr_cons];omega
 |trans _ _ h1 h2=>exact h1.trans h2
theorem B8u{x y z:Int}{R:List Int}(hp:R.Perm [x,y,z])(hs:Srt id R 0 3):gt R 1=max (min x y) (min (max x y) z):=by
 have hl:=hp.length_eq
 obtain⟨a,b,c,rfl⟩:∃a b c,R=[a,b,c]:=by
  match R,hl with
  | [a,b,c],_=>exact⟨a,b,c,rfl⟩
 have h1:=hs 0 1 (by omega) (by omega) (by omega)
 have h2:=hs 1 2 (by omega) (by omega) (by omega)
 simp only[gt,List.getD,id]at h1 h2
 show b=_
 replace h1:a≤b:=h1
 replace h2:b≤c:=h2
 have m:∀t:Int,t∈[a,b,c]↔t∈[x,y,z]:=fun t=>hp.mem_iff
 have s:a+b+c=x+y+z:=by
  have:=C1D hp
  simp only[List.foldr_cons,List.foldr_nil]at this;omega
 have hx:=(m x).2 (by simp)
 have hy:=(m y).2 (by simp)
 have hz:=(m z).2 (by simp)
 have ha:=(m a).1 (by simp)
 have hb:=(m b).1 (by simp)
 have hc:=(m c).1 (by simp)
 simp only[List.mem_cons,List.not_mem_nil,or_false]at hx hy hz ha hb hc
 omega
end Go.Proofs.T10
