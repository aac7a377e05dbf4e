import Derived.Test.YtooomcigmleneaaGreatKyJ
import Derived.Test.YtooomcigmleneaaGreatKxL
import Derived.ProofKit
import Derived.ChangeArms
import Derived.ChangeOld
import Derived.Carry
import Derived.SizedLaws
import Derived.OpenShut
set_option linter.all false
namespace Go.Kx
open Go
inductive Fr where
 |seq (y:Code)
 |k (K:Act→World→Prop)
 |blk (id:Nat)
 |sc
 |q (Q:Exit→Act→World→Prop)
def K5(M:Option Nat)(P:Program):List Fr→Exit→Act→World→Prop
 | []=>fun _ _ _=>True
 | .seq y::fs=>Exit.then (y.wpIn (fen M) 0 P (K5 M P fs)) (K5 M P fs)
 | .k K::fs=>Exit.then K (K5 M P fs)
 | .blk id::fs=>Exit.inBlock id (K5 M P fs)
 | .sc::fs=>Exit.noGoto (K5 M P fs)
 | .q Q::_=>Q
section
variable{M:Option Nat}{P:Program}{N:Nat}{Q:Exit→Act→World→Prop}{fs:List Fr}{B:Base}{m:Mem}{H:List Ent}{σ:B5}{c x y:Code}
theorem wcm{K K':Act→World→Prop}(hk:∀a w,K a w→K' a w)(h:WC M P N (Exit.then K Q) B m H σ c):WC M P N (Exit.then K' Q) B m H σ c:=
 fun Ds w hw a ha=>wpIn_mono (h Ds w hw a ha) fun e a w hq=>by
  cases e with
  |normal=>exact hk _ _ hq
  |_=>exact hq
theorem lp1{A1:Type}(μ:A1→Nat)(mG:A1→Mem)(HG:A1→List Ent)(σG:A1→B5)(F:A1→Prop)(a1:A1)(hF0:F a1)
 (round:∀a1,F a1→WC M P N (K5 M P (.k (fun a w=>∃b1 Ds,F b1∧μ b1<μ a1∧St B (mG b1) (HG b1++marks Ds) w∧Env N Ds (σG b1) a)::fs)) B (mG a1) (HG a1) (σG a1) c) (hm0:m=mG a1:=by exact rfl) (hH0:(HG a1).Sublist H:=by exact A2f) (hσ0:Sub (σG a1) σ:=by exact A2g):WC M P N (K5 M P fs) B m H σ (.loop c):=
 WC.loop (G:=A1) μ mG HG σG F a1 hm0 hH0 hσ0 hF0 fun g hF=>wcm (fun _ _ ⟨b1,D,h⟩=>⟨b1,D,h⟩) (round g hF)
theorem I0{A1:Type}(μ:A1→Nat)(HG:A1→List Ent)(σG:A1→B5)(F:A1→Prop)(a1:A1)(hF0:F a1)
 (round:∀a1,F a1→WC M P N (K5 M P (.k (fun a w=>∃b1 Ds,F b1∧μ b1<μ a1∧St B m (HG b1++marks Ds) w∧Env N Ds (σG b1) a)::fs)) B m (HG a1) (σG a1) c) (hH0:(HG a1).Sublist H:=by exact A2f) (hσ0:Sub (σG a1) σ:=by exact A2g):WC M P N (K5 M P fs) B m H σ (.loop c):=
 lp1 μ (fun _=>m) HG σG F a1 hF0 round rfl hH0 hσ0
theorem G5{A1:Type}{μ:A1→Nat}{mG:A1→Mem}{HG:A1→List Ent}{σG:A1→B5}{F:A1→Prop}{n:Nat}(a1:A1)(hF:F a1)(hμ:μ a1<n:=by(try dsimp only);omega)(hm:m=mG a1:=by exact rfl)(hH:(HG a1).Sublist H:=by exact A2f)(hσ:Sub (σG a1) σ:=by exact A2g):WK N B m H σ fun a w=>∃b1 Ds,F b1∧μ b1<n∧St B (mG b1) (HG b1++marks Ds) w∧Env N Ds (σG b1) a:=
 fun Ds _ hw _ ha=>⟨a1,Ds,hF,hμ,hm▸hw.weaken (hH.append_right _),ha.weaken hσ⟩
theorem I9{A1:Type}{mG:A1→Mem}{HG:A1→List Ent}{σG:A1→B5}{F:A1→Prop}(a1:A1)(hF:F a1)(hm:m=mG a1:=by exact rfl)(hH:(HG a1).Sublist H:=by exact A2f)(hσ:Sub (σG a1) σ:=by exact A2g):WK N B m H σ fun a w=>∃b1 Ds,F b1∧St B (mG b1) (HG b1++marks Ds) w∧Env N Ds (σG b1) a:=
 fun Ds _ hw _ ha=>⟨a1,Ds,hF,hm▸hw.weaken (hH.append_right _),ha.weaken hσ⟩
theorem cu1{A1:Type}(mG:A1→Mem)(HG:A1→List Ent)(σG:A1→B5)(F:A1→Prop)(h1:WC M P N (K5 M P (.k (fun a w=>∃b1 Ds,F b1∧St B (mG b1) (HG b1++marks Ds) w∧Env N Ds (σG b1) a)::fs)) B m H σ x)
 (h2:∀a1,F a1→WC M P N (K5 M P fs) B (mG a1) (HG a1) (σG a1) y):WC M P N (K5 M P fs) B m H σ (.seq x y):=
 WC.cut (G:=A1) mG HG σG F (wcm (fun _ _ ⟨b1,D,h⟩=>⟨b1,D,h⟩) h1) fun g hF=>h2 g hF
theorem lp2{A1 A2:Type}(μ:A1→A2→Nat)(mG:A1→A2→Mem)(HG:A1→A2→List Ent)(σG:A1→A2→B5)(F:A1→A2→Prop)(a1:A1)(a2:A2)(hF0:F a1 a2)
 (round:∀a1 a2,F a1 a2→WC M P N (K5 M P (.k (fun a w=>∃b1 b2 Ds,F b1 b2∧μ b1 b2<μ a1 a2∧St B (mG b1 b2) (HG b1 b2++marks Ds) w∧Env N Ds (σG b1 b2) a)::fs)) B (mG a1 a2) (HG a1 a2) (σG a1 a2) c) (hm0:m=mG a1 a2:=by exact rfl) (hH0:(HG a1 a2).Sublist H:=by exact A2f) (hσ0:Sub (σG a1 a2) σ:=by exact A2g):WC M P N (K5 M P fs) B m H σ (.loop c):=
 WC.loop (G:=A1×A2) (fun g=>μ g.1 g.2) (fun g=>mG g.1 g.2) (fun g=>HG g.1 g.2) (fun g=>σG g.1 g.2) (fun g=>F g.1 g.2) (a1,a2) hm0 hH0 hσ0 hF0 fun g hF=>wcm (fun _ _ ⟨b1,b2,D,h⟩=>⟨(b1,b2),D,h⟩) (round g.1 g.2 hF)
theorem O6{A1 A2:Type}(μ:A1→A2→Nat)(HG:A1→A2→List Ent)(σG:A1→A2→B5)(F:A1→A2→Prop)(a1:A1)(a2:A2)(hF0:F a1 a2)
 (round:∀a1 a2,F a1 a2→WC M P N (K5 M P (.k (fun a w=>∃b1 b2 Ds,F b1 b2∧μ b1 b2<μ a1 a2∧St B m (HG b1 b2++marks Ds) w∧Env N Ds (σG b1 b2) a)::fs)) B m (HG a1 a2) (σG a1 a2) c) (hH0:(HG a1 a2).Sublist H:=by exact A2f) (hσ0:Sub (σG a1 a2) σ:=by exact A2g):WC M P N (K5 M P fs) B m H σ (.loop c):=
 lp2 μ (fun _ _=>m) HG σG F a1 a2 hF0 round rfl hH0 hσ0
theorem J7{A1 A2:Type}{μ:A1→A2→Nat}{mG:A1→A2→Mem}{HG:A1→A2→List Ent}{σG:A1→A2→B5}{F:A1→A2→Prop}{n:Nat}(a1:A1)(a2:A2)(hF:F a1 a2)(hμ:μ a1 a2<n:=by(try dsimp only);omega)(hm:m=mG a1 a2:=by exact rfl)(hH:(HG a1 a2).Sublist H:=by exact A2f)(hσ:Sub (σG a1 a2) σ:=by exact A2g):WK N B m H σ fun a w=>∃b1 b2 Ds,F b1 b2∧μ b1 b2<n∧St B (mG b1 b2) (HG b1 b2++marks Ds) w∧Env N Ds (σG b1 b2) a:=
 fun Ds _ hw _ ha=>⟨a1,a2,Ds,hF,hμ,hm▸hw.weaken (hH.append_right _),ha.weaken hσ⟩
theorem mt2{A1 A2:Type}{mG:A1→A2→Mem}{HG:A1→A2→List Ent}{σG:A1→A2→B5}{F:A1→A2→Prop}(a1:A1)(a2:A2)(hF:F a1 a2)(hm:m=mG a1 a2:=by exact rfl)(hH:(HG a1 a2).Sublist H:=by exact A2f)(hσ:Sub (σG a1 a2) σ:=by exact A2g):WK N B m H σ fun a w=>∃b1 b2 Ds,F b1 b2∧St B (mG b1 b2) (HG b1 b2++marks Ds) w∧Env N Ds (σG b1 b2) a:=
 fun Ds _ hw _ ha=>⟨a1,a2,Ds,hF,hm▸hw.weaken (hH.append_right _),ha.weaken hσ⟩
theorem cu2{A1 A2:Type}(mG:A1→A2→Mem)(HG:A1→A2→List Ent)(σG:A1→A2→B5)(F:A1→A2→Prop)(h1:WC M P N (K5 M P (.k (fun a w=>∃b1 b2 Ds,F b1 b2∧St B (mG b1 b2) (HG b1 b2++marks Ds) w∧Env N Ds (σG b1 b2) a)::fs)) B m H σ x)
 (h2:∀a1 a2,F a1 a2→WC M P N (K5 M P fs) B (mG a1 a2) (HG a1 a2) (σG a1 a2) y):WC M P N (K5 M P fs) B m H σ (.seq x y):=
 WC.cut (G:=A1×A2) (fun g=>mG g.1 g.2) (fun g=>HG g.1 g.2) (fun g=>σG g.1 g.2) (fun g=>F g.1 g.2) (wcm (fun _ _ ⟨b1,b2,D,h⟩=>⟨(b1,b2),D,h⟩) h1) fun g hF=>h2 g.1 g.2 hF
theorem lp3{A1 A2 A3:Type}(μ:A1→A2→A3→Nat)(mG:A1→A2→A3→Mem)(HG:A1→A2→A3→List Ent)(σG:A1→A2→A3→B5)(F:A1→A2→A3→Prop)(a1:A1)(a2:A2)(a3:A3)(hF0:F a1 a2 a3)
 (round:∀a1 a2 a3,F a1 a2 a3→WC M P N (K5 M P (.k (fun a w=>∃b1 b2 b3 Ds,F b1 b2 b3∧μ b1 b2 b3<μ a1 a2 a3∧St B (mG b1 b2 b3) (HG b1 b2 b3++marks Ds) w∧Env N Ds (σG b1 b2 b3) a)::fs)) B (mG a1 a2 a3) (HG a1 a2 a3) (σG a1 a2 a3) c) (hm0:m=mG a1 a2 a3:=by exact rfl) (hH0:(HG a1 a2 a3).Sublist H:=by exact A2f) (hσ0:Sub (σG a1 a2 a3) σ:=by exact A2g):WC M P N (K5 M P fs) B m H σ (.loop c):=
 WC.loop (G:=A1×A2×A3) (fun g=>μ g.1 g.2.1 g.2.2) (fun g=>mG g.1 g.2.1 g.2.2) (fun g=>HG g.1 g.2.1 g.2.2) (fun g=>σG g.1 g.2.1 g.2.2) (fun g=>F g.1 g.2.1 g.2.2) (a1,a2,a3) hm0 hH0 hσ0 hF0 fun g hF=>wcm (fun _ _ ⟨b1,b2,b3,D,h⟩=>⟨(b1,b2,b3),D,h⟩) (round g.1 g.2.1 g.2.2 hF)
theorem lq3{A1 A2 A3:Type}(μ:A1→A2→A3→Nat)(HG:A1→A2→A3→List Ent)(σG:A1→A2→A3→B5)(F:A1→A2→A3→Prop)(a1:A1)(a2:A2)(a3:A3)(hF0:F a1 a2 a3)
 (round:∀a1 a2 a3,F a1 a2 a3→WC M P N (K5 M P (.k (fun a w=>∃b1 b2 b3 Ds,F b1 b2 b3∧μ b1 b2 b3<μ a1 a2 a3∧St B m (HG b1 b2 b3++marks Ds) w∧Env N Ds (σG b1 b2 b3) a)::fs)) B m (HG a1 a2 a3) (σG a1 a2 a3) c) (hH0:(HG a1 a2 a3).Sublist H:=by exact A2f) (hσ0:Sub (σG a1 a2 a3) σ:=by exact A2g):WC M P N (K5 M P fs) B m H σ (.loop c):=
 lp3 μ (fun _ _ _=>m) HG σG F a1 a2 a3 hF0 round rfl hH0 hσ0
theorem X1{A1 A2 A3:Type}{μ:A1→A2→A3→Nat}{mG:A1→A2→A3→Mem}{HG:A1→A2→A3→List Ent}{σG:A1→A2→A3→B5}{F:A1→A2→A3→Prop}{n:Nat}(a1:A1)(a2:A2)(a3:A3)(hF:F a1 a2 a3)(hμ:μ a1 a2 a3<n:=by(try dsimp only);omega)(hm:m=mG a1 a2 a3:=by exact rfl)(hH:(HG a1 a2 a3).Sublist H:=by exact A2f)(hσ:Sub (σG a1 a2 a3) σ:=by exact A2g):WK N B m H σ fun a w=>∃b1 b2 b3 Ds,F b1 b2 b3∧μ b1 b2 b3<n∧St B (mG b1 b2 b3) (HG b1 b2 b3++marks Ds) w∧Env N Ds (σG b1 b2 b3) a:=
 fun Ds _ hw _ ha=>⟨a1,a2,a3,Ds,hF,hμ,hm▸hw.weaken (hH.append_right _),ha.weaken hσ⟩
theorem mt3{A1 A2 A3:Type}{mG:A1→A2→A3→Mem}{HG:A1→A2→A3→List Ent}{σG:A1→A2→A3→B5}{F:A1→A2→A3→Prop}(a1:A1)(a2:A2)(a3:A3)(hF:F a1 a2 a3)(hm:m=mG a1 a2 a3:=by exact rfl)(hH:(HG a1 a2 a3).Sublist H:=by exact A2f)(hσ:Sub (σG a1 a2 a3) σ:=by exact A2g):WK N B m H σ fun a w=>∃b1 b2 b3 Ds,F b1 b2 b3∧St B (mG b1 b2 b3) (HG b1 b2 b3++marks Ds) w∧Env N Ds (σG b1 b2 b3) a:=
 fun Ds _ hw _ ha=>⟨a1,a2,a3,Ds,hF,hm▸hw.weaken (hH.append_right _),ha.weaken hσ⟩
theorem cu3{A1 A2 A3:Type}(mG:A1→A2→A3→Mem)(HG:A1→A2→A3→List Ent)(σG:A1→A2→A3→B5)(F:A1→A2→A3→Prop)(h1:WC M P N (K5 M P (.k (fun a w=>∃b1 b2 b3 Ds,F b1 b2 b3∧St B (mG b1 b2 b3) (HG b1 b2 b3++marks Ds) w∧Env N Ds (σG b1 b2 b3) a)::fs)) B m H σ x)
 (h2:∀a1 a2 a3,F a1 a2 a3→WC M P N (K5 M P fs) B (mG a1 a2 a3) (HG a1 a2 a3) (σG a1 a2 a3) y):WC M P N (K5 M P fs) B m H σ (.seq x y):=
 WC.cut (G:=A1×A2×A3) (fun g=>mG g.1 g.2.1 g.2.2) (fun g=>HG g.1 g.2.1 g.2.2) (fun g=>σG g.1 g.2.1 g.2.2) (fun g=>F g.1 g.2.1 g.2.2) (wcm (fun _ _ ⟨b1,b2,b3,D,h⟩=>⟨(b1,b2,b3),D,h⟩) h1) fun g hF=>h2 g.1 g.2.1 g.2.2 hF
theorem lp{G:Type}(μ:G→Nat)(mG:G→Mem)(HG:G→List Ent)(σG:G→B5)(F:G→Prop)(g0:G)(hF0:F g0)
 (round:∀g,F g→WC M P N (K5 M P (.k (fun a w=>∃g' Ds',F g'∧μ g'<μ g∧St B (mG g') (HG g'++marks Ds') w∧Env N Ds' (σG g') a)::fs)) B (mG g) (HG g) (σG g) c)
 (hm0:m=mG g0:=by exact rfl) (hH0:(HG g0).Sublist H:=by exact A2f) (hσ0:Sub (σG g0) σ:=by exact A2g):WC M P N (K5 M P fs) B m H σ (.loop c):=WC.loop μ mG HG σG F g0 hm0 hH0 hσ0 hF0 round
theorem cu{G:Type}(mG:G→Mem)(HG:G→List Ent)(σG:G→B5)(F:G→Prop)
 (h1:WC M P N (K5 M P (.k (fun a w=>∃g' Ds',F g'∧St B (mG g') (HG g'++marks Ds') w∧Env N Ds' (σG g') a)::fs)) B m H σ x)
 (h2:∀g,F g→WC M P N (K5 M P fs) B (mG g) (HG g) (σG g) y):WC M P N (K5 M P fs) B m H σ (.seq x y):=WC.cut mG HG σG F h1 h2
end
end Go.Kx
namespace Go.Kx
open Go
class Dn(M:Option Nat)(P:Program)(Q:Exit→Act→World→Prop)(fs:outParam (List Fr)):Prop where
 h:Q=K5 M P fs
instance(priority:=high) Dn.d{M:Option Nat}{P:Program}{fs:List Fr}:Dn M P (K5 M P fs) fs:=⟨rfl⟩
instance(priority:=900) Dn.s{M:Option Nat}{P:Program}{Q:Exit→Act→World→Prop}{y:Code}{fs:List Fr}[c:Dn M P Q fs]:Dn M P (Exit.then (y.wpIn (fen M) 0 P Q) Q) (.seq y::fs):=⟨by rw[c.h];rfl⟩
instance(priority:=800) Dn.k{M:Option Nat}{P:Program}{Q:Exit→Act→World→Prop}{K:Act→World→Prop}{fs:List Fr}[c:Dn M P Q fs]:Dn M P (Exit.then K Q) (.k K::fs):=⟨by rw[c.h];rfl⟩
instance(priority:=800) Dn.b{M:Option Nat}{P:Program}{Q:Exit→Act→World→Prop}{id:Nat}{fs:List Fr}[c:Dn M P Q fs]:Dn M P (Exit.inBlock id Q) (.blk id::fs):=⟨by rw[c.h];rfl⟩
instance(priority:=low) Dn.q{M:Option Nat}{P:Program}{Q:Exit→Act→World→Prop}:Dn M P Q [.q Q]:=⟨rfl⟩
inductive Fo where
 |ops (a:Array Oper) (l:List Oper)
 |code (c:Code)
 |exit (e:Exit)
 |kont (K:Act→World→Prop)
def gF(M:Option Nat)(P:Program)(N:Nat)(B:Base)(m:Mem)(H:List Ent):Fo→List Fr→B5→Prop
 | .ops a l,fs,σ=>WL M P N a (K5 M P fs) B m H σ l
 | .code c,fs,σ=>WC M P N (K5 M P fs) B m H σ c
 | .exit e,fs,σ=>WK N B m H σ (K5 M P fs e)
 | .kont K,_,σ=>WK N B m H σ K
def stO(N:Nat)(a:Array Oper)(σ:B5):Oper→Option (Option Oper×B5×Option Int)
 |⟨dst,op,ty,pos,af,g⟩=>match gS a σ g with
  |some false=>match dst with
   |some d=>match Nat.ble (d+1) N with
    |true=>some (none,(d,undef)::σ,none)
    |false=>none
   |none=>none
  |some true=>match g with
   |some _=>some (some ⟨dst,op,ty,pos,af,none⟩,σ,none)
   |none=>match dst with
    |some d=>match Nat.ble (d+1) N with
     |true=>match A9C σ op with
      |some (v,q)=>some (none,(d,v)::σ,q)
      |none=>none
     |false=>none
    |none=>none
  |none=>none
def stC(M:Option Nat)(σ:B5)(fs:List Fr):Code→Option (Fo×List Fr)
 | .seq x y=>some (.code x,.seq y::fs)
 | .region _ a false=>some (.ops a a.toList,fs)
 | .cond c x y=>match ev σ c with
  |some (.bool true)=>some (.code x,fs)
  |some (.bool false)=>some (.code y,fs)
  |_=>none
 | .skip=>some (.exit .normal,fs)
 | .label _=>some (.exit .normal,fs)
 | .ret=>some (.exit .ret,fs)
 | .exit id=>some (.exit (.exit id),fs)
 | .block id c=>some (.code c,.blk id::fs)
 | .scope c=>match M with
  |none=>some (.code c,.sc::fs)
  |some _=>none
 |_=>none
def stN:List Fr→Option (Fo×List Fr)
 | .seq y::fs=>some (.code y,fs)
 | .k K::fs=>some (.kont K,fs)
 | .blk _::fs=>some (.exit .normal,fs)
 | .sc::fs=>some (.exit .normal,fs)
 |_=>none
def stR:List Fr→Option (Fo×List Fr)
 | .seq _::fs=>some (.exit .ret,fs)
 | .k _::fs=>some (.exit .ret,fs)
 | .blk _::fs=>some (.exit .ret,fs)
 | .sc::fs=>some (.exit .ret,fs)
 |_=>none
def stE(j:Nat):List Fr→Option (Fo×List Fr)
 | .seq _::fs=>some (.exit (.exit j),fs)
 | .k _::fs=>some (.exit (.exit j),fs)
 | .blk id::fs=>match Nat.beq j id with
  |true=>some (.exit .normal,fs)
  |false=>some (.exit (.exit j),fs)
 | .sc::fs=>some (.exit (.exit j),fs)
 |_=>none
def go(M:Option Nat)(N:Nat):Nat→Fo→List Fr→B5→Option (Fo×List Fr×B5×List Int)
 |0,f,fs,σ=>some (f,fs,σ,[])
 |n+1,.ops _ [],fs,σ=>go M N n (.exit .normal) fs σ
 |n+1,.ops a (o::l),fs,σ=>match stO N a σ o with
  |some (some o',σ',_)=>go M N n (.ops a (o'::l)) fs σ'
  |some (none,σ',none)=>go M N n (.ops a l) fs σ'
  |some (none,σ',some x)=>match go M N n (.ops a l) fs σ' with
   |some (f',fs',σ',bs)=>some (f',fs',σ',x::bs)
   |none=>none
  |none=>none
 |n+1,.code c,fs,σ=>match stC M σ fs c with
  |some (f',fs')=>go M N n f' fs' σ
  |none=>none
 |n+1,.exit .normal,fs,σ=>match stN fs with
  |some (f',fs')=>go M N n f' fs' σ
  |none=>none
 |n+1,.exit .ret,fs,σ=>match stR fs with
  |some (f',fs')=>go M N n f' fs' σ
  |none=>none
 |n+1,.exit (.exit j),fs,σ=>match stE j fs with
  |some (f',fs')=>go M N n f' fs' σ
  |none=>none
 |_+1,_,_,_=>none
section
variable{M:Option Nat}{P:Program}{N:Nat}{B:Base}{m:Mem}{H:List Ent}{σ:B5}{fs:List Fr}
theorem C7z{a:Array Oper}{Q:Exit→Act→World→Prop}{dst:Option Nat}{op:Op}{ty:TypeId}{pos:String}{af:Array Edge}{g:Option (Nat×Bool)}{l:List Oper}(hg:gS a σ g=some true)
 (k:WL M P N a Q B m H σ (⟨dst,op,ty,pos,af,none⟩::l)):WL M P N a Q B m H σ (⟨dst,op,ty,pos,af,g⟩::l):=by
 unfold gS at hg
 split at hg
 ·exact k
 ·split at hg
  ·rename_i h2
   split at hg
   ·rename_i h3;cases hg;exact WL.yes h2 h3 k
   ·rename_i h3;simp at hg;subst hg;exact WL.yes h2 h3 k
   ·cases hg
   ·cases hg
  ·cases hg
theorem C5C{c:Code}{f':Fo}{fs':List Fr}(h:stC M σ fs c=some (f',fs'))(k:gF M P N B m H f' fs' σ):WC M P N (K5 M P fs) B m H σ c:=by
 unfold stC at h
 split at h
 ·cases h;exact WC.seq k
 ·cases h;exact WC.region (l:=Array.toList _) k
 ·split at h
  ·cases h;exact C0K (by assumption) k
  ·cases h;exact C1b (by assumption) k
  ·cases h
 ·cases h;exact WC.skip k
 ·cases h;exact WC.label k
 ·cases h;exact WC.ret k
 ·cases h;exact WC.exit k
 ·cases h;exact WC.block k
 ·split at h
  ·cases h;exact WC.scope k
  ·cases h
 ·cases h
theorem C5i{f':Fo}{fs':List Fr}(h:stN fs=some (f',fs'))(k:gF M P N B m H f' fs' σ):WK N B m H σ (K5 M P fs .normal):=by
 unfold stN at h;split at h <;> first|(cases h;exact k)|cases h
theorem C5y{f':Fo}{fs':List Fr}(h:stR fs=some (f',fs'))(k:gF M P N B m H f' fs' σ):WK N B m H σ (K5 M P fs .ret):=by
 unfold stR at h;split at h <;> first|(cases h;exact k)|cases h
theorem C6I{j:Nat}{f':Fo}{fs':List Fr}(h:stE j fs=some (f',fs'))(k:gF M P N B m H f' fs' σ):WK N B m H σ (K5 M P fs (.exit j)):=by
 unfold stE at h;split at h
 ·cases h;exact k
 ·cases h;exact k
 ·split at h
  ·rename_i hb;obtain rfl:=Nat.eq_of_beq_eq_true hb;cases h;exact C4l k
  ·cases h;exact C0Z (by assumption) k
 ·cases h;exact k
 ·cases h
theorem B4p{a:Array Oper}{Q:Exit→Act→World→Prop}{l:List Oper}:∀{o:Oper} {r:Option Oper} {σ':B5} {q:Option Int},stO N a σ o=some (r,σ',q)→
 (∃o',r=some o'∧q=none∧(WL M P N a Q B m H σ' (o'::l)→WL M P N a Q B m H σ (o::l)))∨(r=none∧((∀x,q=some x→C2B x)→WL M P N a Q B m H σ' l→WL M P N a Q B m H σ (o::l))):=by
 intro ⟨dst,op,ty,pos,af,g⟩ r σ' q ho
 unfold stO at ho
 split at ho
 rename_i hh;cases hh
 split at ho
 ·rename_i hg
  split at ho
  ·split at ho
   ·cases ho;exact .inr ⟨rfl,fun _ h1=>WL.guard hg (Nat.le_of_ble_eq_true (by assumption)) (fun e=>by cases e) (fun _=>h1)⟩
   ·cases ho
  ·cases ho
 ·rename_i hg
  split at ho
  ·cases ho;exact .inl ⟨_,rfl,rfl,C7z hg⟩
  ·split at ho
   ·split at ho
    ·split at ho
     ·rename_i he;cases ho;exact .inr ⟨rfl,fun hq h1=>WL.x (A4u he hq) (Nat.le_of_ble_eq_true (by assumption)) h1⟩
     ·cases ho
    ·cases ho
   ·cases ho
 ·cases ho
theorem A1Y:∀(n:Nat) {f f':Fo} {fs fs':List Fr} {σ σ':B5} {bs:List Int},go M N n f fs σ=some (f',fs',σ',bs)→okB bs→gF M P N B m H f' fs' σ'→gF M P N B m H f fs σ
 |0,_,_,_,_,_,_,_,h,_,k=>by cases h;exact k
 |n+1,.ops a [],_,_,_,_,_,_,h,hb,k=>WL.nil (A1Y n (f:=.exit .normal) h hb k)
 |n+1,.ops a (o::l),f',fs,fs',σ,σ',bs,h,hb,k=>by
  unfold go at h
  split at h
  ·rename_i ho
   rcases B4p (M:=M) (P:=P) (Q:=K5 M P fs) (B:=B) (m:=m) (H:=H) (l:=l) ho with⟨_,h1,_,h2⟩|⟨h1,_⟩
   ·cases h1;exact h2 (A1Y n (f:=.ops a _) h hb k)
   ·cases h1
  ·rename_i ho
   rcases B4p (M:=M) (P:=P) (Q:=K5 M P fs) (B:=B) (m:=m) (H:=H) (l:=l) ho with⟨_,h1,_,_⟩|⟨_,h2⟩
   ·cases h1
   ·exact h2 (fun x hx=>by cases hx) (A1Y n (f:=.ops a _) h hb k)
  ·rename_i ho
   rcases B4p (M:=M) (P:=P) (Q:=K5 M P fs) (B:=B) (m:=m) (H:=H) (l:=l) ho with⟨_,h1,_,_⟩|⟨_,h2⟩
   ·cases h1
   ·split at h
    ·rename_i h0
     cases h
     exact h2 (fun y hy=>by cases hy;exact hb.1) (A1Y n (f:=.ops a _) h0 hb.2 k)
    ·cases h
  ·cases h
 |n+1,.code c,_,_,_,_,_,_,h,hb,k=>by
  unfold go at h;split at h
  ·exact C5C (by assumption) (A1Y n h hb k)
  ·cases h
 |n+1,.exit .normal,_,_,_,_,_,_,h,hb,k=>by
  unfold go at h;split at h
  ·exact C5i (by assumption) (A1Y n h hb k)
  ·cases h
 |n+1,.exit .ret,_,_,_,_,_,_,h,hb,k=>by
  unfold go at h;split at h
  ·exact C5y (by assumption) (A1Y n h hb k)
  ·cases h
 |n+1,.exit (.exit j),_,_,_,_,_,_,h,hb,k=>by
  unfold go at h;split at h
  ·exact C6I (by assumption) (A1Y n h hb k)
  ·cases h
 |n+1,.exit (.goto _),_,_,_,_,_,_,h,_,_=>by cases h
 |n+1,.kont _,_,_,_,_,_,_,h,_,_=>by cases h
variable{f':Fo}{fs':List Fr}{σ':B5}{bs:List Int}
theorem v'(n:Nat){a:Array Oper}{l:List Oper}(h:go M N n (.ops a l) fs σ=some (f',fs',σ',bs))(k:gF M P N B m H f' fs' σ')(hb:okB bs:=by exact okt):WL M P N a (K5 M P fs) B m H σ l:=A1Y n h hb k
theorem q'(n:Nat){c:Code}(h:go M N n (.code c) fs σ=some (f',fs',σ',bs))(k:gF M P N B m H f' fs' σ')(hb:okB bs:=by exact okt):WC M P N (K5 M P fs) B m H σ c:=A1Y n h hb k
theorem V'(n:Nat){ops:Array Oper}{piv non:List Nat}(h:go M N n (.exit .normal) fs σ=some (f',fs',σ',bs))(k:gF M P N B m H f' fs' σ')(hb:okB bs:=by exact okt):
 DW P B N ops piv non (fun m H σ=>WK N B m H σ (K5 M P fs .normal)) false .done m H σ:=A1Y n h hb k
theorem vk(n:Nat){e:Exit}(h:go M N n (.exit e) fs σ=some (f',fs',σ',bs))(k:gF M P N B m H f' fs' σ')(hb:okB bs:=by exact okt):WK N B m H σ (K5 M P fs e):=A1Y n h hb k
def sq:List Nat→Plan→Plan
 | [],π=>π
 |i::l,π=>.cons i (sq l π)
theorem B4(n:Nat){ops:Array Oper}{id:Nat}(piv non:List Nat)(h:DW P B N ops piv non (fun m H σ=>WK N B m H σ (K5 M P fs .normal)) false (sq (List.range n) .done) m H σ)(hm:P.follows .mixedOrders=true:=by exact rfl)
 (hchk:chk ops (sq (List.range n) .done) piv non=true:=by kernel_rfl):WC M P N (K5 M P fs) B m H σ (.region id ops true):=K7 piv non hm hchk h
theorem qb{Q:Exit→Act→World→Prop}{c:Code}[d:Dn M P Q fs](h:WC M P N (K5 M P fs) B m H σ c):WC M P N Q B m H σ c:=by rw[d.h];exact h
end
section
variable{P:Program}{N:Nat}{m:Mem}{f:FuncId}{fn:Func}{c:Code}{args:List Value}
theorem C7{v:Value}(hf:P.funcs[f]?=some fn)(hb:fn.body=some c)(hN:fn.ntmps=N)(h:∀w,WC none P N (K5 none P [.q (L8 P fn (Ret ⟨w,[],m⟩ fun _ _ v'=>v'=v))]) ⟨w,[],m⟩ m [] (num 0 args) c)(hsz:Nat.ble args.length N=true:=by rfl):
 Exact P f args.toArray m v:=Exact.start hf hb hN hsz h
theorem H7{R:Mem→Value→Prop}(hf:P.funcs[f]?=some fn)(hb:fn.body=some c)(hN:fn.ntmps=N)(h:∀w,WC none P N (K5 none P [.q (L8 P fn (Ret ⟨w,[],m⟩ fun m' _ v'=>R m' v'))]) ⟨w,[],m⟩ m [] (num 0 args) c)(hsz:Nat.ble args.length N=true:=by rfl):
 Pure P f args.toArray m R:=Pure.start hf hb hN hsz h
theorem G3{Es:List Ent}{R:Mem→List Ent→Value→Prop}(hf:P.funcs[f]?=some fn)(hb:fn.body=some c)(hN:fn.ntmps=N)(h:∀w,WC none P N (K5 none P [.q (L8 P fn (Ret ⟨w,B7 Es,m⟩ R))]) ⟨w,B7 Es,m⟩ m Es (num 0 args) c)(hsz:Nat.ble args.length N=true:=by rfl):
 Mut P f args.toArray m Es R:=Mut.start hf hb hN hsz h
end
end Go.Kx
namespace Go.Kx
class Rng(α:Type) where
 ok:α→Prop
instance:Rng Int:=⟨fun n=> -9223372036854775808≤n∧n≤9223372036854775807⟩
instance:Rng Bool:=⟨fun _=>True⟩
instance{α:Type}[Rng α]:Rng (List α):=⟨fun L=>∀x∈L,Rng.ok x⟩
def Br(P:Program)(t:TypeId)(α:Type)[Enc α][Rng α]:Prop:=
 P.cellsOf t=Enc.sz α∧∀{H:Type} (enc:TypeId×Value→H) (W:World) (fuel:Nat) (cs:List Value) (d:DataW H) (ps:List MemPlace),
  DataW.trod enc P W 0 (fun _=>true) true fuel t cs=some (d,ps)→(∀n∈d.weights P t,n≤reachBytes)→∃a:α,Enc.rd (Mem.all W) cs a∧Rng.ok a
theorem Br.int{P:Program}{t:TypeId}(hu:P.underlying t=some (.int .i64))(hc:P.cellsOf t=1):Br P t Int:=by
 refine⟨hc,fun enc W fuel cs d ps h _=>?_⟩
 obtain⟨n,rfl,_,hw⟩:=DataW.trod_int hu h
 exact⟨n,rfl,bounds_i64 hw⟩
theorem Br.bool{P:Program}{t:TypeId}(hu:P.underlying t=some .bool)(hc:P.cellsOf t=1):Br P t Bool:=by
 refine⟨hc,fun enc W fuel cs d ps h _=>?_⟩
 obtain⟨b,rfl,_⟩:=DataW.trod_bool hu h
 exact⟨b,rfl,trivial⟩
theorem B4Y{α:Type}{p:Nat→α→Prop}:∀(n:Nat),(∀i,i<n→∃x,p i x)→∃L:List α,L.length=n∧∀i x,L[i]?=some x→p i x
 |0,_=>⟨[],rfl,fun i x h=>by simp at h⟩
 |n+1,h=>by
  obtain⟨L,hl,hL⟩:=B4Y n (fun i hi=>h i (by omega))
  obtain⟨y,hy⟩:=h n (by omega)
  refine⟨L++[y],by simp[hl],fun i x hx=>?_⟩
  rw[List.getElem?_append]at hx
  split at hx
  ·exact hL i x hx
  ·rename_i hi
   have h0:i-L.length=0:=by
    rcases Nat.eq_zero_or_pos (i-L.length)with h0|h0
    ·exact h0
    ·rw[List.getElem?_eq_none (by simp;omega)]at hx;cases hx
   rw[h0]at hx
   simp at hx
   subst hx
   have:i=n:=by omega
   subst this;exact hy
theorem A5C{H:Type}{P:Program}{e:TypeId}{d:DataW H}:∀{ds:List (DataW H)},d∈ds→∀n∈d.weights P e,n∈DataW.weightsAll P e ds
 | [],h,_,_=>by cases h
 |x::ds,h,n,hn=>by
  rw[DataW.weightsAll,List.mem_append]
  cases h with
  |head=>exact .inl hn
  |tail _ h=>exact .inr (A5C h n hn)
theorem cells_of_cells?{W:World}{a:Addr}{n:Nat}{cs:List Value}(h:W.cells? 0 a n=some cs)(hs:a.spot=none)(hn:0<n):Cells (Mem.all W) a cs:=by
 obtain⟨_,hl,hc⟩:=World.cells?_some h
 have h0:=hc 0 hn
 have hlt:0<cs.length:=by omega
 rw[List.getElem?_eq_getElem hlt]at h0
 rw[B9 hs]at h0
 unfold World.cell? at h0
 cases hb:W.heap[a.block]? with
 |none=>simp[hb]at h0
 |some o=>
  cases o with
  |cells c T fz=>
   refine⟨hs,c,T,fz,hb,fun j v hj=>?_⟩
   have hjl:j<n:=by rw[←hl];exact(List.getElem?_eq_some_iff.1 hj).1
   have h1:=hc j hjl
   rw[hj,B9 hs]at h1
   unfold World.cell? at h1
   simpa[hb]using h1
  |_=>simp[hb]at h0
theorem Br.slice{P:Program}{t e:TypeId}{α:Type}[Enc α][Rng α](hu:P.underlying t=some (.slice e))(hc:P.cellsOf t=1)(hb:0<P.bytesOf e)(he:Br P e α):Br P t (List α):=by
 refine⟨hc,fun{H} enc W fuel cs d ps h hw=>?_⟩
 rcases DataW.trod_slice hu h with⟨rfl,hx⟩|⟨a,len,cap,elems,rest,n,_,rfl,hx,_,hl,hm,hlen,hel,hsp,_⟩
 ·exact⟨[],⟨_,rfl,.nil⟩,fun x hx=>by cases hx⟩
 ·obtain⟨hrl,hre⟩:=hsp rfl
  simp only[Prod.mk.injEq]at hx
  obtain⟨hd,_⟩:=hx
  subst hd
  have hpos:=Enc.pos (α:=α)
  have hspot:∀i,(W.cells? 0 (a.add (i*P.cellsOf e)) (P.cellsOf e)).isSome=true→a.spot=none∨i≠0:=fun i hi=>by
   by_cases e0:i=0
   ·subst e0
    obtain⟨cs',hcs⟩:=Option.isSome_iff_exists.1 hi
    obtain⟨_,hl',hc'⟩:=World.cells?_some hcs
    have h0:=hc' 0 (by rw[he.1];exact hpos)
    rw[List.getElem?_eq_getElem (by rw[hl',he.1];exact hpos)]at h0
    have:=World.cell?_spot h0
    simp only[Nat.zero_mul,Addr.add,if_true]at this
    exact .inl this
   ·exact .inr e0
  have hs:cap≠0→a.spot=none:=fun h0=>by
   have:(W.cells? 0 (a.add (0*P.cellsOf e)) (P.cellsOf e)).isSome=true:=by
    by_cases hl0:0<len
    ·have h1:=hel 0 hl0
     rw[List.getElem?_eq_getElem (by omega)]at h1
     cases hq:W.cells? 0 (a.add (0*P.cellsOf e)) (P.cellsOf e)with
     |none=>rw[hq]at h1;cases h1
     |some _=>rfl
    ·have h1:=hre 0 (by omega)
     rw[List.getElem?_eq_getElem (by omega),show len+0=0 by omega]at h1
     cases hq:W.cells? 0 (a.add (0*P.cellsOf e)) (P.cellsOf e)with
     |none=>rw[hq]at h1;cases h1
     |some _=>rfl
   rcases hspot 0 this with h1|h1
   ·exact h1
   ·exact absurd rfl h1
  have hwl:(elems.length+rest.length)*P.bytesOf e≤reachBytes:=hw _ (by simp[DataW.weights,hu])
  have hcap:elems.length+rest.length=cap:=by omega
  have hcb:cap≤C8:=by
   have h1:cap*1≤cap*P.bytesOf e:=Nat.mul_le_mul_left _ hb
   rw[hcap]at hwl
   have:=reachBytes_lt
   unfold C8;omega
  obtain⟨L,hL,hLp⟩:=B4Y (α:=α) (p:=fun i x=>At (Mem.all W) ⟨a.block,a.off+i*Enc.sz α,none⟩ x∧Rng.ok x) len (fun i hi=>by
   have h1:=hel i hi
   have hil:i<elems.length:=by omega
   rw[List.getElem?_eq_getElem hil]at h1
   cases hq:W.cells? 0 (a.add (i*P.cellsOf e)) (P.cellsOf e)with
   |none=>rw[hq]at h1;cases h1
   |some cs'=>
    rw[hq]at h1
    simp only[Option.bind_some]at h1
    obtain⟨x,hx1,hx2⟩:=he.2 enc W n cs' elems[i].1 elems[i].2 h1 (fun q hq'=>hw q (by
     simp only[DataW.weights,hu,List.mem_cons,List.mem_append]
     exact .inr (.inl (A5C (List.mem_map.2 ⟨elems[i],List.getElem_mem hil,rfl⟩) q hq'))))
    rw[B9 (hs (by omega)),he.1]at hq
    exact⟨x,⟨cs',hx1,cells_of_cells? hq rfl hpos⟩,hx2⟩)
  have:=Sl.some (m:=Mem.all W) a L cap hs (by omega) (by omega) hm (fun i x hx=>(hLp i x hx).1)
  rw[hL]at this
  refine⟨L,⟨_,rfl,this⟩,fun x hx=>?_⟩
  obtain⟨i,hi,rfl⟩:=List.getElem_of_mem hx
  exact(hLp i _ (List.getElem?_eq_getElem hi)).2
theorem C1h(cs:List Value)(a k:Nat):cs.drop a=(cs.drop a).take k++cs.drop (a+k):=by rw[←List.drop_drop,List.take_append_drop]
theorem B7v{H:Type}{P:Program}{t:TypeId}{fs:Array Field}{xs:List (DataW H×List MemPlace)}(hu:P.underlying t=some (.struct fs)){B:Nat}(hw:∀n∈(DataW.agg (xs.map (·.1))).weights P t,n≤B)
 {i:Nat} {f:Field} {y:DataW H×List MemPlace} (hf:fs[i]?=some f) (hy:xs[i]?=some y):∀n∈y.1.weights P f.type,n≤B:=by
 intro n hn
 refine hw n ?_
 simp only[DataW.weights,hu]
 exact DataW.weights_mem_each (ts:=fs.toList.map (·.type)) (ds:=xs.map (·.1)) (j:=i) (t:=f.type) (d:=y.1) (by simp[hf]) (by simp[hy]) n hn
theorem B4O{α:Type}{xs:List α}{n i:Nat}(h:xs.length=n)(hi:Nat.ble (i+1) n=true):∃y,xs[i]?=some y:=
 ⟨_,List.getElem?_eq_getElem (by rw[h];exact Nat.le_of_ble_eq_true hi)⟩
section
variable{P:Program}{W:World}{r:Reach}{b0:Nat}{H:Type}{enc:TypeId×Value→H}{t:TypeId}{v:Value}{d:DataW H}{ps:List MemPlace}
theorem C3X(hu:P.underlying t=some (.int .i64))(hval:Value.okWide P W r b0 t v)(hd:DataW.Trod enc P W 0 (fun _=>true) true t v d ps):
 ∃n:Int,v= .int .i64 n∧-9223372036854775808≤n∧n≤9223372036854775807:=by
 obtain⟨n,rfl,_,_,hw⟩:=ChangeShapes.open_int hu hval hd
 exact⟨n,rfl,bounds_i64 hw⟩
theorem B3S{e:TypeId}{α:Type}[Enc α][Rng α](hb:Br P t (List α))(hu:P.underlying t=some (.slice e))(hval:Value.okWide P W r b0 t v)(hd:DataW.Trod enc P W 0 (fun _=>true) true t v d ps)(hw:∀n∈d.weights P t,n≤reachBytes):
 ∃L:List α,Sl (Mem.all W) v L∧Rng.ok L:=by
 obtain⟨a,len,cap,rfl⟩:=WideShapes.okWide_slice hu hval
 obtain⟨fuel,hf⟩:=hd
 obtain⟨L,⟨u,hu',hs⟩,hok⟩:=hb.2 enc W fuel _ d ps hf hw
 have:u= .slice a len cap:=by simpa[Value.cells]using hu'.symm
 subst this
 exact⟨L,hs,hok⟩
theorem C5K{fs:Array Field}{α:Type}[Enc α][Rng α](hb:Br P t α)(hu:P.underlying t=some (.struct fs))(hval:Value.okWide P W r b0 t v)(hd:DataW.Trod enc P W 0 (fun _=>true) true t v d ps)(hw:∀n∈d.weights P t,n≤reachBytes):
 ∃(cs:List Value) (x:α),v= .agg cs.toArray∧Enc.rd (Mem.all W) cs x∧Rng.ok x:=by
 unfold Value.okWide at hval
 rw[hu]at hval
 obtain⟨cs,rfl,_⟩:=hval
 obtain⟨fuel,hf⟩:=hd
 obtain⟨x,hx,hok⟩:=hb.2 enc W fuel _ d ps hf hw
 exact⟨cs.toList,x,by simp,by simpa[Value.cells]using hx,hok⟩
theorem B2t{ts:List TypeId}{ds:List (DataW H)}(h:(DataW.weightsEach P ts ds).all (· ≤reachBytes)=true){j:Nat}(ht:ts[j]?=some t)(hd:ds[j]?=some d):∀n∈d.weights P t,n≤reachBytes:=fun n hn=>by
 have:=List.all_eq_true.1 h n (DataW.weights_mem_each ht hd n hn)
 simpa using this
end
theorem St.below{w w':World}{m m':Mem}{H:List Ent}(h:St ⟨w,[],m⟩ m' H w'):RowKit.Below w.heap.size w w':=⟨h.os,h.tape,h.output,h.size,fun b hb=>h.base b hb (by simp)⟩
theorem B8Y{P:Program}{f:FuncId}{args:Array Value}{W:World}(h:Exact P f args (Mem.all W) (.bool true)):Calls P f args W fun e w'=>e= .returned (.bool true)∧RowKit.Below W.heap.size W w':=
 (h W (fun _ _ h=>h)).mono fun e w' ⟨v,m',H',he,hs,hv⟩=>⟨by rw[he,hv],hs.below⟩
end Go.Kx
namespace Go.Kx
open Go
theorem Br.struct{P:Program}{t:TypeId}{fs:Array Field}{α:Type}[Enc α][Rng α](hu:P.underlying t=some (.struct fs))(hc:P.cellsOf t=Enc.sz α)
 (step:∀(W:World) (cs:List Value),(∀(i:Nat) (f:Field) (β:Type) [Enc β] [Rng β],fs[i]?=some f→Nat.ble (i+1) fs.size=true→Br P f.type β→∃a:β,Enc.rd (Mem.all W) ((cs.drop f.offset).take (Enc.sz β)) a∧Rng.ok a)→
  cs.drop (Enc.sz α)=[]→∃a:α,Enc.rd (Mem.all W) cs a∧Rng.ok a):Br P t α:=by
 refine⟨hc,fun enc W fuel cs d ps h hw=>?_⟩
 obtain⟨xs,fu,_,hx,hl,hlen,hf⟩:=DataW.trod_struct hu h
 simp only[Prod.mk.injEq]at hx
 obtain⟨rfl,_⟩:=hx
 refine step W cs (fun i f β _ _ hi hb hbr=>?_) (List.drop_eq_nil_of_le (by omega))
 obtain⟨y,hy⟩:=B4O (i:=i) hlen hb
 have f0:=hf i f hi
 rw[hbr.1]at f0
 exact hbr.2 enc W _ _ y.1 y.2 (f0.trans hy) (B7v hu hw (i:=i) hi hy)
theorem ct{cs L r:List Value}{o z:Nat}(h:(cs.drop o).take z=L)(k:cs.drop (o+z)=r):cs.drop o=L++r:=by rw[C1h cs o z,h,k]
end Go.Kx
