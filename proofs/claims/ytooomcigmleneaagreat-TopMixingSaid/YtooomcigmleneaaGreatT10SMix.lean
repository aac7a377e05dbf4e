import Derived.Test.YtooomcigmleneaaGreatT10SWk
set_option linter.all false
namespace Go.Proofs.S10
open Go Go.Kx Go.Proofs.T10
variable{A:List Int}{a b:List Course}{l:List Station}{t:Int}{w:WeekT}{week:Int}
theorem A9x{w:Wind}(h:(A0y w l week A).2=0):I4 w l week A=0∧A1Z w l week A:=by
 by_cases h1:I4 w l week A=0
 ·by_cases h2:A1Z w l week A
  ·exact⟨h1,h2⟩
  ·rw[A9a h1 h2]at h;cases h
 ·rw[A7h h1]at h;exact absurd h h1
theorem B4Z{i:Nat}(hi:i<l.length):gt (N0 l week A) i=A6y l week A i:=by
 unfold N0
 simp[gt,List.getD,hi]
def C7w(n:Nat)(A B M:List Int):Prop:=(∀i,i<n→gt M i=gt A i∨gt M i=gt B i)∧((∀i,i<n→gt M i≤gt A i∧gt M i≤gt B i)∨∀i,i<n→gt A i≤gt M i∧gt B i≤gt M i)
theorem C0A{w:Wind}{B M:List Int}(hA:(A0y w l week A).2=0)(hB:(A0y w l week B).2=0)(hM:M.length=l.length)(hm:C7w l.length A B M):(A0y w l week M).2=0:=by
 obtain⟨a1,a2⟩:=A9x hA
 obtain⟨b1,b2⟩:=A9x hB
 have az:=A1g a1
 have bz:=A1g b1
 have hst:=(K0 az.1).1
 have hh:∀i,i<l.length→0≤(O8 (gt l i) week).Lo∧0≤(O8 (gt l i) week).Hi:=fun i hi=>by
  have h:=A6b (week:=week) (R6 hst hi).2
  unfold A3F at h;omega
 have lev:∀i,i<l.length→A1j M i:=fun i hi=>by
  have h1:=az.2.2.2 i hi
  have h2:=bz.2.2.2 i hi
  unfold A1j at*
  rcases hm.1 i hi with h|h <;> rw[h] <;> assumption
 have hl:I4 w l week M=0:=B0q az.1 az.2.1 hM lev
 have lo:∀(C:List Int) i,i<l.length→loS l week C i=A0n (gt C i) (O8 (gt l i) week).Lo:=fun C i hi=>by unfold loS;rw[B4Z hi];rfl
 have hi':∀(C:List Int) i,i<l.length→(gt (N0 l week C) i).Hi=A0n (gt C i) (O8 (gt l i) week).Hi:=fun C i hi=>by rw[B4Z hi];rfl
 have pair:∀C:List Int,A1Z w l week C→∀i k,i<l.length→k<l.length→loS l week C k-P2 w l k i≤(gt (N0 l week C) i).Hi:=fun C hf i k hi hk=>Int.le_trans (B7a hk) (hf i hi)
 have self:∀C:List Int,A1Z w l week C→∀i,i<l.length→loS l week C i≤(gt (N0 l week C) i).Hi:=fun C hf i hi=>Int.le_trans (C2G i) (hf i hi)
 have up:∀(C D:List Int) i,i<l.length→A1j C i→gt C i≤gt D i→loS l week C i≤loS l week D i∧(gt (N0 l week C) i).Hi≤(gt (N0 l week D) i).Hi:=fun C D i hi h1 h2=>by
  rw[lo C i hi,lo D i hi,hi' C i hi,hi' D i hi]
  unfold A1j at h1
  exact⟨B5w (hh i hi).1 h1.1 h2,B5w (hh i hi).2 h1.1 h2⟩
 have same:∀(C:List Int) i,i<l.length→gt M i=gt C i→loS l week M i=loS l week C i∧(gt (N0 l week M) i).Hi=(gt (N0 l week C) i).Hi:=fun C i hi h=>by
  rw[lo M i hi,lo C i hi,hi' M i hi,hi' C i hi,h];exact⟨rfl,rfl⟩
 have fm:A1Z w l week M:=fun i hi=>by
  refine B2x ?_ fun k hk=>?_
  ·rcases hm.1 i hi with h|h
   ·obtain⟨h1,h2⟩:=same A i hi h
    rw[h1,h2];exact self A a2 i hi
   ·obtain⟨h1,h2⟩:=same B i hi h
    rw[h1,h2];exact self B b2 i hi
  ·rcases hm.2 with hs|hs
   ·rcases hm.1 i hi with h|h
    ·have h1:=(up M A k hk (lev k hk) (hs k hk).1).1
     have h2:=pair A a2 i k hi hk
     rw[(same A i hi h).2];omega
    ·have h1:=(up M B k hk (lev k hk) (hs k hk).2).1
     have h2:=pair B b2 i k hi hk
     rw[(same B i hi h).2];omega
   ·rcases hm.1 k hk with h|h
    ·have h1:=(up A M i hi (az.2.2.2 i hi) (hs i hi).1).2
     have h2:=pair A a2 i k hi hk
     rw[(same A k hk h).1];omega
    ·have h1:=(up B M i hi (bz.2.2.2 i hi) (hs i hi).2).2
     have h2:=pair B b2 i k hi hk
     rw[(same B k hk h).1];omega
 rw[A6W hl fm]
def Y2(c:List Course)(t:Int)(i:Nat):Int:=gt (gt c i).Levels t.toNat
def A8Q(a b:List Course)(t:Int)(i:Nat):Course:=if Y2 a t i≤Y2 b t i then gt a i else gt b i
def A6i(a b:List Course)(t:Int)(i:Nat):Course:=if Y2 a t i≤Y2 b t i then gt b i else gt a i
def A0x(a b:List Course)(t:Int)(n:Nat):List Course:=E8 n (A8Q a b t)
def V6(a b:List Course)(t:Int)(n:Nat):List Course:=E8 n (A6i a b t)
theorem B5B{M:List Course}(ha:A0T w a)(hb:A0T w b)(hl:M.length=w.Sheets.length)(hm:∀i,i<w.Sheets.length→gt M i=gt a i∨gt M i=gt b i)
 (hs:(∀i,i<w.Sheets.length→Y2 M w.Base.Term i≤Y2 a w.Base.Term i∧Y2 M w.Base.Term i≤Y2 b w.Base.Term i)∨∀i,i<w.Sheets.length→Y2 a w.Base.Term i≤Y2 M w.Base.Term i∧Y2 b w.Base.Term i≤Y2 M w.Base.Term i):A0T w M:=by
 have at_:∀(C:List Course) i,i<w.Sheets.length→gt (lvL w C w.Sheets.length) i=Y2 C w.Base.Term i:=fun C i hi=>by unfold lvL;rw[V4 _ hi];rfl
 have hsl:(stL w w.Sheets.length).length=w.Sheets.length:=C4 _ _
 refine⟨⟨hl,fun i hi=>?_,?_⟩,fun i hi k hk=>?_,fun k hk i hi=>?_⟩
 ·rcases hm i hi with h|h <;> rw[h]
  ·exact ha.1.2.1 i hi
  ·exact hb.1.2.1 i hi
 ·refine C0A ha.1.2.2 hb.1.2.2 (by rw[hsl];exact C4 _ _) ⟨fun i hi=>?_,?_⟩
  ·rw[hsl]at hi
   rw[at_ M i hi,at_ a i hi,at_ b i hi]
   unfold Y2
   rcases hm i hi with h|h <;> rw[h]
   ·exact .inl rfl
   ·exact .inr rfl
  ·rcases hs with hs|hs
   ·refine .inl fun i hi=>?_
    rw[hsl]at hi
    rw[at_ M i hi,at_ a i hi,at_ b i hi];exact hs i hi
   ·refine .inr fun i hi=>?_
    rw[hsl]at hi
    rw[at_ M i hi,at_ a i hi,at_ b i hi];exact hs i hi
 ·have h1:=ha.2.1 i hi k hk
  have h2:=hb.2.1 i hi k hk
  unfold A3T at*
  rcases hm i hi with h|h <;> rw[h] <;> assumption
 ·have h1:=ha.2.2 k hk i hi
  have h2:=hb.2.2 k hk i hi
  unfold A3X at*
  rcases hm i hi with h|h <;> rw[h] <;> assumption
theorem C3K{n:Nat}(ha:A0T w a)(hb:A0T w b)(ht:w.Base.Term=t)(hn:n=a.length):A0T w (A0x a b t n):=by
 subst ht
 have hl:n=w.Sheets.length:=hn.trans ha.1.1
 subst hl
 have hg:∀i,i<w.Sheets.length→gt (A0x a b w.Base.Term w.Sheets.length) i=A8Q a b w.Base.Term i:=fun i hi=>V4 _ hi
 refine B5B ha hb (C4 _ _) (fun i hi=>?_) (.inl fun i hi=>?_)
 ·rw[hg i hi];unfold A8Q;split
  ·exact .inl rfl
  ·exact .inr rfl
 ·have h1:Y2 (A0x a b w.Base.Term w.Sheets.length) w.Base.Term i=gt (A8Q a b w.Base.Term i).Levels (w.Base.Term:Int).toNat:=by unfold Y2;rw[hg i hi]
  rw[h1];unfold A8Q;split
  ·rename_i h;exact⟨Int.le_refl _,h⟩
  ·rename_i h;exact⟨Int.le_of_lt (Int.not_le.1 h),Int.le_refl _⟩
theorem C0I{n:Nat}(ha:A0T w a)(hb:A0T w b)(ht:w.Base.Term=t)(hn:n=a.length):A0T w (V6 a b t n):=by
 subst ht
 have hl:n=w.Sheets.length:=hn.trans ha.1.1
 subst hl
 have hg:∀i,i<w.Sheets.length→gt (V6 a b w.Base.Term w.Sheets.length) i=A6i a b w.Base.Term i:=fun i hi=>V4 _ hi
 refine B5B ha hb (C4 _ _) (fun i hi=>?_) (.inr fun i hi=>?_)
 ·rw[hg i hi];unfold A6i;split
  ·exact .inr rfl
  ·exact .inl rfl
 ·have h1:Y2 (V6 a b w.Base.Term w.Sheets.length) w.Base.Term i=gt (A6i a b w.Base.Term i).Levels (w.Base.Term:Int).toNat:=by unfold Y2;rw[hg i hi]
  rw[h1];unfold A6i;split
  ·rename_i h;exact⟨h,Int.le_refl _⟩
  ·rename_i h;exact⟨Int.le_refl _,Int.le_of_lt (Int.not_le.1 h)⟩
theorem B5j{k:Nat}(h:Y2 a t k≤Y2 b t k):A0x a b t k++[gt a k]=A0x a b t (k+1)∧V6 a b t k++[gt b k]=V6 a b t (k+1):=by
 unfold A0x V6
 rw[L4,L4]
 unfold A8Q A6i
 rw[if_pos h,if_pos h];exact⟨rfl,rfl⟩
theorem B8K{k:Nat}(h:¬Y2 a t k≤Y2 b t k):A0x a b t k++[gt b k]=A0x a b t (k+1)∧V6 a b t k++[gt a k]=V6 a b t (k+1):=by
 unfold A0x V6
 rw[L4,L4]
 unfold A8Q A6i
 rw[if_neg h,if_neg h];exact⟨rfl,rfl⟩
theorem B3M{c:List Course}(hz:U9 w=0)(h:A0T w c)(ht:w.Base.Term=t):∀i,i<c.length→0≤t∧t<((gt c i).Levels.length:Int):=fun i hi=>by
 have h1:=(h.1.2.1 i (by rw[←h.1.1];exact hi)).1.1.2.1
 have h2:=(A2M hz).2.1
 unfold A2t at h2
 omega
end Go.Proofs.S10
