import Derived.Test.YtooomcigmleneaaGreatKyJ
import Derived.ProofKit
import Derived.ChangeArms
import Derived.ChangeOld
import Derived.Carry
import Derived.SizedLaws
import Derived.OpenShut
set_option linter.all false
namespace Go.Kx
open Go
inductive Fr where
 |seq (y:Code)
 |k (K:Act→World→Prop)
 |blk (id:Nat)
 |sc
 |q (Q:Exit→Act→World→Prop)
def M4(M:Option Nat)(P:Program):List Fr→Exit→Act→World→Prop
 | []=>fun _ _ _=>True
 | .seq y::fs=>Exit.then (y.wpIn (Df M) 0 P (M4 M P fs)) (M4 M P fs)
 | .k K::fs=>Exit.then K (M4 M P fs)
 | .blk id::fs=>Exit.inBlock id (M4 M P fs)
 | .sc::fs=>Exit.noGoto (M4 M P fs)
 | .q Q::_=>Q
section
variable{M:Option Nat}{P:Program}{N:Nat}{Q:Exit→Act→World→Prop}{fs:List Fr}{B:Base}{m:Mem}{H:List Ent}{σ:B6}{c x y:Code}
theorem wcm{K K':Act→World→Prop}(hk:∀a w,K a w→K' a w)(h:WC M P N (Exit.then K Q) B m H σ c):WC M P N (Exit.then K' Q) B m H σ c:=
 fun Ds w d a f=>wpIn_mono (h Ds w d a f) fun e a w b=>by
  cases e with
  |normal=>exact hk _ _ b
  |_=>exact b
theorem lp1{A1:Type}(μ:A1→Nat)(mG:A1→Mem)(HG:A1→List Ent)(σG:A1→B6)(F:A1→Prop)(a1:A1)(hF0:F a1)
 (round:∀a1,F a1→WC M P N (M4 M P (.k (fun a w=>∃b1 Ds,F b1∧μ b1<μ a1∧St B (mG b1) (HG b1++marks Ds) w∧Env N Ds (σG b1) a)::fs)) B (mG a1) (HG a1) (σG a1) c) (hm0:m=mG a1:=by exact rfl) (hH0:(HG a1).Sublist H:=by exact CS) (hσ0:Sub (σG a1) σ:=by exact CT):WC M P N (M4 M P fs) B m H σ (.loop c):=
 WC.loop (G:=A1) μ mG HG σG F a1 hm0 hH0 hσ0 hF0 fun g b=>wcm (fun _ _ ⟨b1,D,h⟩=>⟨b1,D,h⟩) (round g b)
theorem J4{A1:Type}(μ:A1→Nat)(HG:A1→List Ent)(σG:A1→B6)(F:A1→Prop)(a1:A1)(hF0:F a1)
 (round:∀a1,F a1→WC M P N (M4 M P (.k (fun a w=>∃b1 Ds,F b1∧μ b1<μ a1∧St B m (HG b1++marks Ds) w∧Env N Ds (σG b1) a)::fs)) B m (HG a1) (σG a1) c) (hH0:(HG a1).Sublist H:=by exact CS) (hσ0:Sub (σG a1) σ:=by exact CT):WC M P N (M4 M P fs) B m H σ (.loop c):=
 lp1 μ (fun _=>m) HG σG F a1 hF0 round rfl hH0 hσ0
theorem I6{A1:Type}{μ:A1→Nat}{mG:A1→Mem}{HG:A1→List Ent}{σG:A1→B6}{F:A1→Prop}{n:Nat}(a1:A1)(hF:F a1)(hμ:μ a1<n:=by(try dsimp only);omega)(hm:m=mG a1:=by exact rfl)(hH:(HG a1).Sublist H:=by exact CS)(hσ:Sub (σG a1) σ:=by exact CT):WK N B m H σ fun a w=>∃b1 Ds,F b1∧μ b1<n∧St B (mG b1) (HG b1++marks Ds) w∧Env N Ds (σG b1) a:=
 fun Ds _ b _ c=>⟨a1,Ds,hF,hμ,hm▸b.weaken (hH.append_right _),c.weaken hσ⟩
theorem H5{A1:Type}{mG:A1→Mem}{HG:A1→List Ent}{σG:A1→B6}{F:A1→Prop}(a1:A1)(hF:F a1)(hm:m=mG a1:=by exact rfl)(hH:(HG a1).Sublist H:=by exact CS)(hσ:Sub (σG a1) σ:=by exact CT):WK N B m H σ fun a w=>∃b1 Ds,F b1∧St B (mG b1) (HG b1++marks Ds) w∧Env N Ds (σG b1) a:=
 fun Ds _ b _ c=>⟨a1,Ds,hF,hm▸b.weaken (hH.append_right _),c.weaken hσ⟩
theorem Bm{A1:Type}(mG:A1→Mem)(HG:A1→List Ent)(σG:A1→B6)(F:A1→Prop)(h1:WC M P N (M4 M P (.k (fun a w=>∃b1 Ds,F b1∧St B (mG b1) (HG b1++marks Ds) w∧Env N Ds (σG b1) a)::fs)) B m H σ x)
 (h2:∀a1,F a1→WC M P N (M4 M P fs) B (mG a1) (HG a1) (σG a1) y):WC M P N (M4 M P fs) B m H σ (.seq x y):=
 WC.cut (G:=A1) mG HG σG F (wcm (fun _ _ ⟨b1,D,h⟩=>⟨b1,D,h⟩) h1) fun g b=>h2 g b
theorem lp2{A1 A2:Type}(μ:A1→A2→Nat)(mG:A1→A2→Mem)(HG:A1→A2→List Ent)(σG:A1→A2→B6)(F:A1→A2→Prop)(a1:A1)(a2:A2)(hF0:F a1 a2)
 (round:∀a1 a2,F a1 a2→WC M P N (M4 M P (.k (fun a w=>∃b1 b2 Ds,F b1 b2∧μ b1 b2<μ a1 a2∧St B (mG b1 b2) (HG b1 b2++marks Ds) w∧Env N Ds (σG b1 b2) a)::fs)) B (mG a1 a2) (HG a1 a2) (σG a1 a2) c) (hm0:m=mG a1 a2:=by exact rfl) (hH0:(HG a1 a2).Sublist H:=by exact CS) (hσ0:Sub (σG a1 a2) σ:=by exact CT):WC M P N (M4 M P fs) B m H σ (.loop c):=
 WC.loop (G:=A1×A2) (fun g=>μ g.1 g.2) (fun g=>mG g.1 g.2) (fun g=>HG g.1 g.2) (fun g=>σG g.1 g.2) (fun g=>F g.1 g.2) (a1,a2) hm0 hH0 hσ0 hF0 fun g b=>wcm (fun _ _ ⟨b1,b2,D,h⟩=>⟨(b1,b2),D,h⟩) (round g.1 g.2 b)
theorem S5{A1 A2:Type}(μ:A1→A2→Nat)(HG:A1→A2→List Ent)(σG:A1→A2→B6)(F:A1→A2→Prop)(a1:A1)(a2:A2)(hF0:F a1 a2)
 (round:∀a1 a2,F a1 a2→WC M P N (M4 M P (.k (fun a w=>∃b1 b2 Ds,F b1 b2∧μ b1 b2<μ a1 a2∧St B m (HG b1 b2++marks Ds) w∧Env N Ds (σG b1 b2) a)::fs)) B m (HG a1 a2) (σG a1 a2) c) (hH0:(HG a1 a2).Sublist H:=by exact CS) (hσ0:Sub (σG a1 a2) σ:=by exact CT):WC M P N (M4 M P fs) B m H σ (.loop c):=
 lp2 μ (fun _ _=>m) HG σG F a1 a2 hF0 round rfl hH0 hσ0
theorem K2{A1 A2:Type}{μ:A1→A2→Nat}{mG:A1→A2→Mem}{HG:A1→A2→List Ent}{σG:A1→A2→B6}{F:A1→A2→Prop}{n:Nat}(a1:A1)(a2:A2)(hF:F a1 a2)(hμ:μ a1 a2<n:=by(try dsimp only);omega)(hm:m=mG a1 a2:=by exact rfl)(hH:(HG a1 a2).Sublist H:=by exact CS)(hσ:Sub (σG a1 a2) σ:=by exact CT):WK N B m H σ fun a w=>∃b1 b2 Ds,F b1 b2∧μ b1 b2<n∧St B (mG b1 b2) (HG b1 b2++marks Ds) w∧Env N Ds (σG b1 b2) a:=
 fun Ds _ b _ c=>⟨a1,a2,Ds,hF,hμ,hm▸b.weaken (hH.append_right _),c.weaken hσ⟩
theorem CZ{A1 A2:Type}{mG:A1→A2→Mem}{HG:A1→A2→List Ent}{σG:A1→A2→B6}{F:A1→A2→Prop}(a1:A1)(a2:A2)(hF:F a1 a2)(hm:m=mG a1 a2:=by exact rfl)(hH:(HG a1 a2).Sublist H:=by exact CS)(hσ:Sub (σG a1 a2) σ:=by exact CT):WK N B m H σ fun a w=>∃b1 b2 Ds,F b1 b2∧St B (mG b1 b2) (HG b1 b2++marks Ds) w∧Env N Ds (σG b1 b2) a:=
 fun Ds _ b _ c=>⟨a1,a2,Ds,hF,hm▸b.weaken (hH.append_right _),c.weaken hσ⟩
theorem cu2{A1 A2:Type}(mG:A1→A2→Mem)(HG:A1→A2→List Ent)(σG:A1→A2→B6)(F:A1→A2→Prop)(h1:WC M P N (M4 M P (.k (fun a w=>∃b1 b2 Ds,F b1 b2∧St B (mG b1 b2) (HG b1 b2++marks Ds) w∧Env N Ds (σG b1 b2) a)::fs)) B m H σ x)
 (h2:∀a1 a2,F a1 a2→WC M P N (M4 M P fs) B (mG a1 a2) (HG a1 a2) (σG a1 a2) y):WC M P N (M4 M P fs) B m H σ (.seq x y):=
 WC.cut (G:=A1×A2) (fun g=>mG g.1 g.2) (fun g=>HG g.1 g.2) (fun g=>σG g.1 g.2) (fun g=>F g.1 g.2) (wcm (fun _ _ ⟨b1,b2,D,h⟩=>⟨(b1,b2),D,h⟩) h1) fun g b=>h2 g.1 g.2 b
theorem Iz{A1 A2 A3:Type}(μ:A1→A2→A3→Nat)(mG:A1→A2→A3→Mem)(HG:A1→A2→A3→List Ent)(σG:A1→A2→A3→B6)(F:A1→A2→A3→Prop)(a1:A1)(a2:A2)(a3:A3)(hF0:F a1 a2 a3)
 (round:∀a1 a2 a3,F a1 a2 a3→WC M P N (M4 M P (.k (fun a w=>∃b1 b2 b3 Ds,F b1 b2 b3∧μ b1 b2 b3<μ a1 a2 a3∧St B (mG b1 b2 b3) (HG b1 b2 b3++marks Ds) w∧Env N Ds (σG b1 b2 b3) a)::fs)) B (mG a1 a2 a3) (HG a1 a2 a3) (σG a1 a2 a3) c) (hm0:m=mG a1 a2 a3:=by exact rfl) (hH0:(HG a1 a2 a3).Sublist H:=by exact CS) (hσ0:Sub (σG a1 a2 a3) σ:=by exact CT):WC M P N (M4 M P fs) B m H σ (.loop c):=
 WC.loop (G:=A1×A2×A3) (fun g=>μ g.1 g.2.1 g.2.2) (fun g=>mG g.1 g.2.1 g.2.2) (fun g=>HG g.1 g.2.1 g.2.2) (fun g=>σG g.1 g.2.1 g.2.2) (fun g=>F g.1 g.2.1 g.2.2) (a1,a2,a3) hm0 hH0 hσ0 hF0 fun g b=>wcm (fun _ _ ⟨b1,b2,b3,D,h⟩=>⟨(b1,b2,b3),D,h⟩) (round g.1 g.2.1 g.2.2 b)
theorem Di{A1 A2 A3:Type}(μ:A1→A2→A3→Nat)(HG:A1→A2→A3→List Ent)(σG:A1→A2→A3→B6)(F:A1→A2→A3→Prop)(a1:A1)(a2:A2)(a3:A3)(hF0:F a1 a2 a3)
 (round:∀a1 a2 a3,F a1 a2 a3→WC M P N (M4 M P (.k (fun a w=>∃b1 b2 b3 Ds,F b1 b2 b3∧μ b1 b2 b3<μ a1 a2 a3∧St B m (HG b1 b2 b3++marks Ds) w∧Env N Ds (σG b1 b2 b3) a)::fs)) B m (HG a1 a2 a3) (σG a1 a2 a3) c) (hH0:(HG a1 a2 a3).Sublist H:=by exact CS) (hσ0:Sub (σG a1 a2 a3) σ:=by exact CT):WC M P N (M4 M P fs) B m H σ (.loop c):=
 Iz μ (fun _ _ _=>m) HG σG F a1 a2 a3 hF0 round rfl hH0 hσ0
theorem O7{A1 A2 A3:Type}{μ:A1→A2→A3→Nat}{mG:A1→A2→A3→Mem}{HG:A1→A2→A3→List Ent}{σG:A1→A2→A3→B6}{F:A1→A2→A3→Prop}{n:Nat}(a1:A1)(a2:A2)(a3:A3)(hF:F a1 a2 a3)(hμ:μ a1 a2 a3<n:=by(try dsimp only);omega)(hm:m=mG a1 a2 a3:=by exact rfl)(hH:(HG a1 a2 a3).Sublist H:=by exact CS)(hσ:Sub (σG a1 a2 a3) σ:=by exact CT):WK N B m H σ fun a w=>∃b1 b2 b3 Ds,F b1 b2 b3∧μ b1 b2 b3<n∧St B (mG b1 b2 b3) (HG b1 b2 b3++marks Ds) w∧Env N Ds (σG b1 b2 b3) a:=
 fun Ds _ b _ c=>⟨a1,a2,a3,Ds,hF,hμ,hm▸b.weaken (hH.append_right _),c.weaken hσ⟩
theorem PK{A1 A2 A3:Type}{mG:A1→A2→A3→Mem}{HG:A1→A2→A3→List Ent}{σG:A1→A2→A3→B6}{F:A1→A2→A3→Prop}(a1:A1)(a2:A2)(a3:A3)(hF:F a1 a2 a3)(hm:m=mG a1 a2 a3:=by exact rfl)(hH:(HG a1 a2 a3).Sublist H:=by exact CS)(hσ:Sub (σG a1 a2 a3) σ:=by exact CT):WK N B m H σ fun a w=>∃b1 b2 b3 Ds,F b1 b2 b3∧St B (mG b1 b2 b3) (HG b1 b2 b3++marks Ds) w∧Env N Ds (σG b1 b2 b3) a:=
 fun Ds _ b _ c=>⟨a1,a2,a3,Ds,hF,hm▸b.weaken (hH.append_right _),c.weaken hσ⟩
theorem cu3{A1 A2 A3:Type}(mG:A1→A2→A3→Mem)(HG:A1→A2→A3→List Ent)(σG:A1→A2→A3→B6)(F:A1→A2→A3→Prop)(h1:WC M P N (M4 M P (.k (fun a w=>∃b1 b2 b3 Ds,F b1 b2 b3∧St B (mG b1 b2 b3) (HG b1 b2 b3++marks Ds) w∧Env N Ds (σG b1 b2 b3) a)::fs)) B m H σ x)
 (h2:∀a1 a2 a3,F a1 a2 a3→WC M P N (M4 M P fs) B (mG a1 a2 a3) (HG a1 a2 a3) (σG a1 a2 a3) y):WC M P N (M4 M P fs) B m H σ (.seq x y):=
 WC.cut (G:=A1×A2×A3) (fun g=>mG g.1 g.2.1 g.2.2) (fun g=>HG g.1 g.2.1 g.2.2) (fun g=>σG g.1 g.2.1 g.2.2) (fun g=>F g.1 g.2.1 g.2.2) (wcm (fun _ _ ⟨b1,b2,b3,D,h⟩=>⟨(b1,b2,b3),D,h⟩) h1) fun g b=>h2 g.1 g.2.1 g.2.2 b
theorem lp{G:Type}(μ:G→Nat)(mG:G→Mem)(HG:G→List Ent)(σG:G→B6)(F:G→Prop)(g0:G)(hF0:F g0)
 (round:∀g,F g→WC M P N (M4 M P (.k (fun a w=>∃g' Ds',F g'∧μ g'<μ g∧St B (mG g') (HG g'++marks Ds') w∧Env N Ds' (σG g') a)::fs)) B (mG g) (HG g) (σG g) c)
 (hm0:m=mG g0:=by exact rfl) (hH0:(HG g0).Sublist H:=by exact CS) (hσ0:Sub (σG g0) σ:=by exact CT):WC M P N (M4 M P fs) B m H σ (.loop c):=WC.loop μ mG HG σG F g0 hm0 hH0 hσ0 hF0 round
theorem cu{G:Type}(mG:G→Mem)(HG:G→List Ent)(σG:G→B6)(F:G→Prop)
 (h1:WC M P N (M4 M P (.k (fun a w=>∃g' Ds',F g'∧St B (mG g') (HG g'++marks Ds') w∧Env N Ds' (σG g') a)::fs)) B m H σ x)
 (h2:∀g,F g→WC M P N (M4 M P fs) B (mG g) (HG g) (σG g) y):WC M P N (M4 M P fs) B m H σ (.seq x y):=WC.cut mG HG σG F h1 h2
end
class Dn(M:Option Nat)(P:Program)(Q:Exit→Act→World→Prop)(fs:outParam (List Fr)):Prop where
 h:Q=M4 M P fs
instance(priority:=high) Dn.d{M:Option Nat}{P:Program}{fs:List Fr}:Dn M P (M4 M P fs) fs:=⟨rfl⟩
instance(priority:=900) Dn.s{M:Option Nat}{P:Program}{Q:Exit→Act→World→Prop}{y:Code}{fs:List Fr}[c:Dn M P Q fs]:Dn M P (Exit.then (y.wpIn (Df M) 0 P Q) Q) (.seq y::fs):=⟨by rw[c.h];rfl⟩
instance(priority:=800) Dn.k{M:Option Nat}{P:Program}{Q:Exit→Act→World→Prop}{K:Act→World→Prop}{fs:List Fr}[c:Dn M P Q fs]:Dn M P (Exit.then K Q) (.k K::fs):=⟨by rw[c.h];rfl⟩
instance(priority:=800) Dn.b{M:Option Nat}{P:Program}{Q:Exit→Act→World→Prop}{id:Nat}{fs:List Fr}[c:Dn M P Q fs]:Dn M P (Exit.inBlock id Q) (.blk id::fs):=⟨by rw[c.h];rfl⟩
instance(priority:=low) Dn.q{M:Option Nat}{P:Program}{Q:Exit→Act→World→Prop}:Dn M P Q [.q Q]:=⟨rfl⟩
inductive Fo where
 |ops (a:Array Oper) (l:List Oper)
 |code (c:Code)
 |exit (e:Exit)
 |kont (K:Act→World→Prop)
def gF(M:Option Nat)(P:Program)(N:Nat)(B:Base)(m:Mem)(H:List Ent):Fo→List Fr→B6→Prop
 | .ops a l,fs,σ=>WL M P N a (M4 M P fs) B m H σ l
 | .code c,fs,σ=>WC M P N (M4 M P fs) B m H σ c
 | .exit e,fs,σ=>WK N B m H σ (M4 M P fs e)
 | .kont K,_,σ=>WK N B m H σ K
def stO(N:Nat)(a:Array Oper)(σ:B6):Oper→Option (Option Oper×B6×Option Int)
 |⟨dst,op,ty,pos,af,g⟩=>match gS a σ g with
  |some false=>match dst with
   |some d=>match Nat.ble (d+1) N with
    |true=>some (none,(d,undef)::σ,none)
    |false=>none
   |none=>none
  |some true=>match g with
   |some _=>some (some ⟨dst,op,ty,pos,af,none⟩,σ,none)
   |none=>match dst with
    |some d=>match Nat.ble (d+1) N with
     |true=>match Mk σ op with
      |some (v,q)=>some (none,(d,v)::σ,q)
      |none=>none
     |false=>none
    |none=>none
  |none=>none
def stC(M:Option Nat)(σ:B6)(fs:List Fr):Code→Option (Fo×List Fr)
 | .seq x y=>some (.code x,.seq y::fs)
 | .region _ a false=>some (.ops a a.toList,fs)
 | .cond c x y=>match ev σ c with
  |some (.bool true)=>some (.code x,fs)
  |some (.bool false)=>some (.code y,fs)
  |_=>none
 | .skip=>some (.exit .normal,fs)
 | .label _=>some (.exit .normal,fs)
 | .ret=>some (.exit .ret,fs)
 | .exit id=>some (.exit (.exit id),fs)
 | .block id c=>some (.code c,.blk id::fs)
 | .scope c=>match M with
  |none=>some (.code c,.sc::fs)
  |some _=>none
 |_=>none
def stN:List Fr→Option (Fo×List Fr)
 | .seq y::fs=>some (.code y,fs)
 | .k K::fs=>some (.kont K,fs)
 | .blk _::fs=>some (.exit .normal,fs)
 | .sc::fs=>some (.exit .normal,fs)
 |_=>none
def stR:List Fr→Option (Fo×List Fr)
 | .seq _::fs=>some (.exit .ret,fs)
 | .k _::fs=>some (.exit .ret,fs)
 | .blk _::fs=>some (.exit .ret,fs)
 | .sc::fs=>some (.exit .ret,fs)
 |_=>none
def stE(j:Nat):List Fr→Option (Fo×List Fr)
 | .seq _::fs=>some (.exit (.exit j),fs)
 | .k _::fs=>some (.exit (.exit j),fs)
 | .blk id::fs=>match Nat.beq j id with
  |true=>some (.exit .normal,fs)
  |false=>some (.exit (.exit j),fs)
 | .sc::fs=>some (.exit (.exit j),fs)
 |_=>none
def go(M:Option Nat)(N:Nat):Nat→Fo→List Fr→B6→Option (Fo×List Fr×B6×List Int)
 |0,f,fs,σ=>some (f,fs,σ,[])
 |n+1,.ops _ [],fs,σ=>go M N n (.exit .normal) fs σ
 |n+1,.ops a (o::l),fs,σ=>match stO N a σ o with
  |some (some o',σ',_)=>go M N n (.ops a (o'::l)) fs σ'
  |some (none,σ',none)=>go M N n (.ops a l) fs σ'
  |some (none,σ',some x)=>match go M N n (.ops a l) fs σ' with
   |some (f',fs',σ',bs)=>some (f',fs',σ',x::bs)
   |none=>none
  |none=>none
 |n+1,.code c,fs,σ=>match stC M σ fs c with
  |some (f',fs')=>go M N n f' fs' σ
  |none=>none
 |n+1,.exit .normal,fs,σ=>match stN fs with
  |some (f',fs')=>go M N n f' fs' σ
  |none=>none
 |n+1,.exit .ret,fs,σ=>match stR fs with
  |some (f',fs')=>go M N n f' fs' σ
  |none=>none
 |n+1,.exit (.exit j),fs,σ=>match stE j fs with
  |some (f',fs')=>go M N n f' fs' σ
  |none=>none
 |_+1,_,_,_=>none
section
variable{M:Option Nat}{P:Program}{N:Nat}{B:Base}{m:Mem}{H:List Ent}{σ:B6}{fs:List Fr}
theorem B6E{a:Array Oper}{Q:Exit→Act→World→Prop}{dst:Option Nat}{op:Op}{ty:TypeId}{pos:String}{af:Array Edge}{g:Option (Nat×Bool)}{l:List Oper}(hg:gS a σ g=some true)
 (k:WL M P N a Q B m H σ (⟨dst,op,ty,pos,af,none⟩::l)):WL M P N a Q B m H σ (⟨dst,op,ty,pos,af,g⟩::l):=by
 unfold gS at hg
 split at hg
 ·exact k
 ·split at hg
  ·rename_i h2
   split at hg
   ·rename_i h3;cases hg;exact WL.yes h2 h3 k
   ·rename_i h3;simp at hg;subst hg;exact WL.yes h2 h3 k
   ·cases hg
   ·cases hg
  ·cases hg
theorem B4a{c:Code}{f':Fo}{fs':List Fr}(h:stC M σ fs c=some (f',fs'))(k:gF M P N B m H f' fs' σ):WC M P N (M4 M P fs) B m H σ c:=by
 unfold stC at h
 split at h
 ·cases h;exact WC.seq k
 ·cases h;exact WC.region (l:=Array.toList _) k
 ·split at h
  ·cases h;exact A7G ‹_› k
  ·cases h;exact A8Z ‹_› k
  ·cases h
 ·cases h;exact WC.skip k
 ·cases h;exact WC.label k
 ·cases h;exact WC.ret k
 ·cases h;exact WC.exit k
 ·cases h;exact WC.block k
 ·split at h
  ·cases h;exact WC.scope k
  ·cases h
 ·cases h
theorem B3A{f':Fo}{fs':List Fr}(h:stN fs=some (f',fs'))(k:gF M P N B m H f' fs' σ):WK N B m H σ (M4 M P fs .normal):=by
 unfold stN at h;split at h <;> first|(cases h;exact k)|cases h
theorem B3E{f':Fo}{fs':List Fr}(h:stR fs=some (f',fs'))(k:gF M P N B m H f' fs' σ):WK N B m H σ (M4 M P fs .ret):=by
 unfold stR at h;split at h <;> first|(cases h;exact k)|cases h
theorem B4I{j:Nat}{f':Fo}{fs':List Fr}(h:stE j fs=some (f',fs'))(k:gF M P N B m H f' fs' σ):WK N B m H σ (M4 M P fs (.exit j)):=by
 unfold stE at h;split at h
 ·cases h;exact k
 ·cases h;exact k
 ·split at h
  ·rename_i hb;obtain rfl:=Nat.eq_of_beq_eq_true hb;cases h;exact B2e k
  ·cases h;exact A7A ‹_› k
 ·cases h;exact k
 ·cases h
theorem RW{a:Array Oper}{Q:Exit→Act→World→Prop}{l:List Oper}:∀{o:Oper} {r:Option Oper} {σ':B6} {q:Option Int},stO N a σ o=some (r,σ',q)→
 (∃o',r=some o'∧q=none∧(WL M P N a Q B m H σ' (o'::l)→WL M P N a Q B m H σ (o::l)))∨(r=none∧((∀x,q=some x→B0x x)→WL M P N a Q B m H σ' l→WL M P N a Q B m H σ (o::l))):=by
 intro ⟨dst,op,ty,pos,af,g⟩ r σ' q ho
 unfold stO at ho
 split at ho
 rename_i hh;cases hh
 split at ho
 ·rename_i hg
  split at ho
  ·split at ho
   ·cases ho;exact .inr ⟨rfl,fun _ b=>WL.guard hg (J' ‹_›) (fun e=>by cases e) (fun _=>b)⟩
   ·cases ho
  ·cases ho
 ·rename_i hg
  split at ho
  ·cases ho;exact .inl ⟨_,rfl,rfl,B6E hg⟩
  ·split at ho
   ·split at ho
    ·split at ho
     ·rename_i he;cases ho;exact .inr ⟨rfl,fun c b=>WL.x (FU he c) (J' ‹_›) b⟩
     ·cases ho
    ·cases ho
   ·cases ho
 ·cases ho
theorem CI:∀(n:Nat) {f f':Fo} {fs fs':List Fr} {σ σ':B6} {bs:List Int},go M N n f fs σ=some (f',fs',σ',bs)→FS bs→gF M P N B m H f' fs' σ'→gF M P N B m H f fs σ
 |0,_,_,_,_,_,_,_,h,_,k=>by cases h;exact k
 |n+1,.ops a [],_,_,_,_,_,_,h,hb,k=>WL.nil (CI n (f:=.exit .normal) h hb k)
 |n+1,.ops a (o::l),f',fs,fs',σ,σ',bs,h,hb,k=>by
  unfold go at h
  split at h
  ·rename_i ho
   rcases RW (M:=M) (P:=P) (Q:=M4 M P fs) (B:=B) (m:=m) (H:=H) (l:=l) ho with⟨_,h1,_,h2⟩|⟨h1,_⟩
   ·cases h1;exact h2 (CI n (f:=.ops a _) h hb k)
   ·cases h1
  ·rename_i ho
   rcases RW (M:=M) (P:=P) (Q:=M4 M P fs) (B:=B) (m:=m) (H:=H) (l:=l) ho with⟨_,h1,_,_⟩|⟨_,h2⟩
   ·cases h1
   ·exact h2 (fun x b=>by cases b) (CI n (f:=.ops a _) h hb k)
  ·rename_i ho
   rcases RW (M:=M) (P:=P) (Q:=M4 M P fs) (B:=B) (m:=m) (H:=H) (l:=l) ho with⟨_,h1,_,_⟩|⟨_,h2⟩
   ·cases h1
   ·split at h
    ·rename_i h0
     cases h
     exact h2 (fun y d=>by cases d;exact hb.1) (CI n (f:=.ops a _) h0 hb.2 k)
    ·cases h
  ·cases h
 |n+1,.code c,_,_,_,_,_,_,h,hb,k=>by
  unfold go at h;split at h
  ·exact B4a ‹_› (CI n h hb k)
  ·cases h
 |n+1,.exit .normal,_,_,_,_,_,_,h,hb,k=>by
  unfold go at h;split at h
  ·exact B3A ‹_› (CI n h hb k)
  ·cases h
 |n+1,.exit .ret,_,_,_,_,_,_,h,hb,k=>by
  unfold go at h;split at h
  ·exact B3E ‹_› (CI n h hb k)
  ·cases h
 |n+1,.exit (.exit j),_,_,_,_,_,_,h,hb,k=>by
  unfold go at h;split at h
  ·exact B4I ‹_› (CI n h hb k)
  ·cases h
 |n+1,.exit (.goto _),_,_,_,_,_,_,h,_,_=>by cases h
 |n+1,.kont _,_,_,_,_,_,_,h,_,_=>by cases h
variable{f':Fo}{fs':List Fr}{σ':B6}{bs:List Int}
theorem U(n:Nat){a:Array Oper}{l:List Oper}(h:go M N n (.ops a l) fs σ=some (f',fs',σ',bs))(k:gF M P N B m H f' fs' σ')(hb:FS bs:=by exact okt):WL M P N a (M4 M P fs) B m H σ l:=CI n h hb k
theorem q'(n:Nat){c:Code}(h:go M N n (.code c) fs σ=some (f',fs',σ',bs))(k:gF M P N B m H f' fs' σ')(hb:FS bs:=by exact okt):WC M P N (M4 M P fs) B m H σ c:=CI n h hb k
theorem V'(n:Nat){ops:Array Oper}{piv non:List Nat}(h:go M N n (.exit .normal) fs σ=some (f',fs',σ',bs))(k:gF M P N B m H f' fs' σ')(hb:FS bs:=by exact okt):
 DW P B N ops piv non (fun m H σ=>WK N B m H σ (M4 M P fs .normal)) false .done m H σ:=CI n h hb k
theorem vk(n:Nat){e:Exit}(h:go M N n (.exit e) fs σ=some (f',fs',σ',bs))(k:gF M P N B m H f' fs' σ')(hb:FS bs:=by exact okt):WK N B m H σ (M4 M P fs e):=CI n h hb k
def sq:List Nat→Plan→Plan
 | [],π=>π
 |i::l,π=>.cons i (sq l π)
theorem B9(n:Nat){ops:Array Oper}{id:Nat}(piv non:List Nat)(h:DW P B N ops piv non (fun m H σ=>WK N B m H σ (M4 M P fs .normal)) false (sq (List.range n) .done) m H σ)(hm:P.follows .mixedOrders=true:=by exact rfl)
 (hchk:chk ops (sq (List.range n) .done) piv non=true:=by kernel_rfl):WC M P N (M4 M P fs) B m H σ (.region id ops true):=L4 piv non hm hchk h
theorem qb{Q:Exit→Act→World→Prop}{c:Code}[d:Dn M P Q fs](h:WC M P N (M4 M P fs) B m H σ c):WC M P N Q B m H σ c:=by rw[d.h];exact h
end
section
variable{P:Program}{N:Nat}{m:Mem}{f:FuncId}{fn:Func}{c:Code}{args:List Value}
theorem D4{v:Value}(hf:P.funcs[f]?=some fn)(hb:fn.body=some c)(hN:fn.ntmps=N)(h:∀w,WC none P N (M4 none P [.q (N2 P fn (Ret ⟨w,[],m⟩ fun _ _ U=>U=v))]) ⟨w,[],m⟩ m [] (IB 0 args) c)(hsz:Nat.ble args.length N=true:=by rfl):
 Exact P f args.toArray m v:=Exact.start hf hb hN hsz h
theorem F6{R:Mem→Value→Prop}(hf:P.funcs[f]?=some fn)(hb:fn.body=some c)(hN:fn.ntmps=N)(h:∀w,WC none P N (M4 none P [.q (N2 P fn (Ret ⟨w,[],m⟩ fun m' _ U=>R m' U))]) ⟨w,[],m⟩ m [] (IB 0 args) c)(hsz:Nat.ble args.length N=true:=by rfl):
 Pure P f args.toArray m R:=Pure.start hf hb hN hsz h
theorem G3{Es:List Ent}{R:Mem→List Ent→Value→Prop}(hf:P.funcs[f]?=some fn)(hb:fn.body=some c)(hN:fn.ntmps=N)(h:∀w,WC none P N (M4 none P [.q (N2 P fn (Ret ⟨w,B8 Es,m⟩ R))]) ⟨w,B8 Es,m⟩ m Es (IB 0 args) c)(hsz:Nat.ble args.length N=true:=by rfl):
 Mut P f args.toArray m Es R:=Mut.start hf hb hN hsz h
end
end Go.Kx
namespace Go.Kx
class Rng(α:Type) where
 ok:α→Prop
instance:Rng Int:=⟨fun n=> -9223372036854775808≤n∧n≤9223372036854775807⟩
instance:Rng Bool:=⟨fun _=>True⟩
instance{α:Type}[Rng α]:Rng (List α):=⟨fun L=>∀x∈L,Rng.ok x⟩
def Br(P:Program)(t:TypeId)(α:Type)[Enc α][Rng α]:Prop:=
 P.cellsOf t=Enc.sz α∧∀{H:Type} (enc:TypeId×Value→H) (W:World) (fuel:Nat) (cs:List Value) (d:DataW H) (ps:List MemPlace),
  DataW.trod enc P W 0 (fun _=>true) true fuel t cs=some (d,ps)→(∀n∈d.weights P t,n≤reachBytes)→∃a:α,Enc.rd (Mem.all W) cs a∧Rng.ok a
theorem Br.int{P:Program}{t:TypeId}(hu:P.underlying t=some (.int .i64))(hc:P.cellsOf t=1):Br P t Int:=by
 refine⟨hc,fun enc W fuel cs d ps h _=>?_⟩
 obtain⟨n,rfl,_,a⟩:=DataW.trod_int hu h
 exact⟨n,rfl,bounds_i64 a⟩
theorem Br.bool{P:Program}{t:TypeId}(hu:P.underlying t=some .bool)(hc:P.cellsOf t=1):Br P t Bool:=by
 refine⟨hc,fun enc W fuel cs d ps h _=>?_⟩
 obtain⟨b,rfl,_⟩:=DataW.trod_bool hu h
 exact⟨b,rfl,trivial⟩
theorem A1B{α:Type}{p:Nat→α→Prop}:∀(n:Nat),(∀i,i<n→∃x,p i x)→∃L:List α,L.length=n∧∀i x,L[i]?=some x→p i x
 |0,_=>⟨[],rfl,fun i x h=>by simp at h⟩
 |n+1,h=>by
  obtain⟨L,hl,hL⟩:=A1B n (fun i hi=>h i (by omega))
  obtain⟨y,c⟩:=h n (by omega)
  refine⟨L++[y],by simp[hl],fun i x a=>?_⟩
  rw[Ue]at a
  split at a
  ·exact hL i x a
  ·rename_i hi
   have b:i-L.length=0:=by
    rcases TM (i-L.length)with b|b
    ·exact b
    ·rw[Sm (by simp;omega)]at a;cases a
   rw[b]at a
   simp at a
   subst a
   have:i=n:=by omega
   subst this;exact c
theorem GM{H:Type}{P:Program}{e:TypeId}{d:DataW H}:∀{ds:List (DataW H)},d∈ds→∀n∈d.weights P e,n∈DataW.weightsAll P e ds
 | [],h,_,_=>by cases h
 |x::ds,h,n,hn=>by
  rw[DataW.weightsAll,Sa]
  cases h with
  |head=>exact .inl hn
  |tail _ h=>exact .inr (GM h n hn)
theorem cells_of_cells?{W:World}{a:Addr}{n:Nat}{cs:List Value}(h:W.cells? 0 a n=some cs)(hs:a.spot=none)(hn:0<n):Cells (Mem.all W) a cs:=by
 obtain⟨_,m,l⟩:=World.cells?_some h
 have b:=l 0 hn
 have d:0<cs.length:=by omega
 rw[Sy d]at b
 rw[C9 hs]at b
 unfold World.cell? at b
 cases hb:W.heap[a.block]? with
 |none=>simp[hb]at b
 |some o=>
  cases o with
  |cells c T fz=>
   refine⟨hs,c,T,fz,hb,fun j v k=>?_⟩
   have f:j<n:=by rw[←m];exact(Sq.1 k).1
   have g:=l j f
   rw[k,C9 hs]at g
   unfold World.cell? at g
   simpa[hb]using g
  |_=>simp[hb]at b
theorem Br.slice{P:Program}{t e:TypeId}{α:Type}[Enc α][Rng α](hu:P.underlying t=some (.slice e))(hc:P.cellsOf t=1)(hb:0<P.bytesOf e)(he:Br P e α):Br P t (List α):=by
 refine⟨hc,fun{H} enc W fuel cs d ps h D=>?_⟩
 rcases DataW.trod_slice hu h with⟨rfl,f⟩|⟨a,len,cap,elems,rest,n,_,rfl,f,_,hl,hm,hlen,hel,hsp,_⟩
 ·exact⟨[],⟨_,rfl,.nil⟩,fun x f=>by cases f⟩
 ·obtain⟨I,v⟩:=hsp rfl
  simp only[Prod.mk.injEq]at f
  obtain⟨J,_⟩:=f
  subst J
  have c:=Enc.pos (α:=α)
  have g:∀i,(W.cells? 0 (a.add (i*P.cellsOf e)) (P.cellsOf e)).isSome=true→a.spot=none∨i≠0:=fun i hi=>by
   by_cases F:i=0
   ·subst F
    obtain⟨cs',w⟩:=Option.isSome_iff_exists.1 hi
    obtain⟨_,y,z⟩:=World.cells?_some w
    have r:=z 0 (by rw[he.1];exact c)
    rw[Sy (by rw[y,he.1];exact c)]at r
    have:=World.cell?_spot r
    simp only[SU,Addr.add,if_true]at this
    exact .inl this
   ·exact .inr F
  have E:cap≠0→a.spot=none:=fun r=>by
   have:(W.cells? 0 (a.add (0*P.cellsOf e)) (P.cellsOf e)).isSome=true:=by
    by_cases C:0<len
    ·have b:=hel 0 C
     rw[Sy (by omega)]at b
     cases hq:W.cells? 0 (a.add (0*P.cellsOf e)) (P.cellsOf e)with
     |none=>rw[hq]at b;cases b
     |some _=>rfl
    ·have b:=v 0 (by omega)
     rw[Sy (by omega),show len+0=0 by omega]at b
     cases hq:W.cells? 0 (a.add (0*P.cellsOf e)) (P.cellsOf e)with
     |none=>rw[hq]at b;cases b
     |some _=>rfl
   rcases g 0 this with b|b
   ·exact b
   ·exact absurd rfl b
  have u:(elems.length+rest.length)*P.bytesOf e≤reachBytes:=D _ (by simp[DataW.weights,hu])
  have k:elems.length+rest.length=cap:=by omega
  have G:cap≤C7:=by
   have b:cap*1≤cap*P.bytesOf e:=Nat.mul_le_mul_left _ hb
   rw[k]at u
   have:=reachBytes_lt
   unfold C7;omega
  obtain⟨L,K,o⟩:=A1B (α:=α) (p:=fun i x=>At (Mem.all W) ⟨a.block,a.off+i*Enc.sz α,none⟩ x∧Rng.ok x) len (fun i hi=>by
   have b:=hel i hi
   have l:i<elems.length:=by omega
   rw[Sy l]at b
   cases hq:W.cells? 0 (a.add (i*P.cellsOf e)) (P.cellsOf e)with
   |none=>rw[hq]at b;cases b
   |some cs'=>
    rw[hq]at b
    simp only[Tz]at b
    obtain⟨x,A,B⟩:=he.2 enc W n cs' elems[i].1 elems[i].2 b (fun q s=>D q (by
     simp only[DataW.weights,hu,Sn,Sa]
     exact .inr (.inl (GM (Sh.2 ⟨elems[i],List.getElem_mem l,rfl⟩) q s))))
    rw[C9 (E (by omega)),he.1]at hq
    exact⟨x,⟨cs',A,cells_of_cells? hq rfl c⟩,B⟩)
  have:=Sl.some (m:=Mem.all W) a L cap E (by omega) (by omega) hm (fun i x f=>(o i x f).1)
  rw[K]at this
  refine⟨L,⟨_,rfl,this⟩,fun x f=>?_⟩
  obtain⟨i,hi,rfl⟩:=List.getElem_of_mem f
  exact(o i _ (Sy hi)).2
theorem A9e(cs:List Value)(a k:Nat):cs.drop a=(cs.drop a).take k++cs.drop (a+k):=by rw[←Uh,Uj]
theorem A3e{H:Type}{P:Program}{t:TypeId}{fs:Array Field}{xs:List (DataW H×List MemPlace)}(hu:P.underlying t=some (.struct fs)){B:Nat}(hw:∀n∈(DataW.agg (xs.map (·.1))).weights P t,n≤B)
 {i:Nat} {f:Field} {y:DataW H×List MemPlace} (hf:fs[i]?=some f) (hy:xs[i]?=some y):∀n∈y.1.weights P f.type,n≤B:=by
 intro n a
 refine hw n ?_
 simp only[DataW.weights,hu]
 exact DataW.weights_mem_each (ts:=fs.toList.map (·.type)) (ds:=xs.map (·.1)) (j:=i) (t:=f.type) (d:=y.1) (by simp[hf]) (by simp[hy]) n a
theorem A1b{α:Type}{xs:List α}{n i:Nat}(h:xs.length=n)(hi:Nat.ble (i+1) n=true):∃y,xs[i]?=some y:=
 ⟨_,Sy (by rw[h];exact J' hi)⟩
section
variable{P:Program}{W:World}{r:Reach}{b0:Nat}{H:Type}{enc:TypeId×Value→H}{t:TypeId}{v:Value}{d:DataW H}{ps:List MemPlace}
theorem A1n(hu:P.underlying t=some (.int .i64))(hval:Value.okWide P W r b0 t v)(hd:DataW.Trod enc P W 0 (fun _=>true) true t v d ps):
 ∃n:Int,v= .int .i64 n∧-9223372036854775808≤n∧n≤9223372036854775807:=by
 obtain⟨n,rfl,_,_,a⟩:=ChangeShapes.open_int hu hval hd
 exact⟨n,rfl,bounds_i64 a⟩
theorem B4w{e:TypeId}{α:Type}[Enc α][Rng α](hb:Br P t (List α))(hu:P.underlying t=some (.slice e))(hval:Value.okWide P W r b0 t v)(hd:DataW.Trod enc P W 0 (fun _=>true) true t v d ps)(hw:∀n∈d.weights P t,n≤reachBytes):
 ∃L:List α,Sl (Mem.all W) v L∧Rng.ok L:=by
 obtain⟨a,len,cap,rfl⟩:=WideShapes.okWide_slice hu hval
 obtain⟨fuel,f⟩:=hd
 obtain⟨L,⟨u,b,g⟩,c⟩:=hb.2 enc W fuel _ d ps f hw
 have:u= .slice a len cap:=by simpa[Value.cells]using b.symm
 subst this
 exact⟨L,g,c⟩
theorem B3S{fs:Array Field}{α:Type}[Enc α][Rng α](hb:Br P t α)(hu:P.underlying t=some (.struct fs))(hval:Value.okWide P W r b0 t v)(hd:DataW.Trod enc P W 0 (fun _=>true) true t v d ps)(hw:∀n∈d.weights P t,n≤reachBytes):
 ∃(cs:List Value) (x:α),v= .agg cs.toArray∧Enc.rd (Mem.all W) cs x∧Rng.ok x:=by
 unfold Value.okWide at hval
 rw[hu]at hval
 obtain⟨cs,rfl,_⟩:=hval
 obtain⟨fuel,b⟩:=hd
 obtain⟨x,c,a⟩:=hb.2 enc W fuel _ d ps b hw
 exact⟨cs.toList,x,by simp,by simpa[Value.cells]using c,a⟩
theorem B0o{ts:List TypeId}{ds:List (DataW H)}(h:(DataW.weightsEach P ts ds).all (· ≤reachBytes)=true){j:Nat}(ht:ts[j]?=some t)(hd:ds[j]?=some d):∀n∈d.weights P t,n≤reachBytes:=fun n a=>by
 have:=Tp.1 h n (DataW.weights_mem_each ht hd n a)
 simpa using this
end
theorem St.below{w w':World}{m m':Mem}{H:List Ent}(h:St ⟨w,[],m⟩ m' H w'):RowKit.Below w.heap.size w w':=⟨h.os,h.tape,h.output,h.size,fun b a=>h.base b a (by simp)⟩
theorem A6x{P:Program}{f:FuncId}{args:Array Value}{W:World}(h:Exact P f args (Mem.all W) (.bool true)):Calls P f args W fun e w'=>e= .returned (.bool true)∧RowKit.Below W.heap.size W w':=
 (h W (fun _ _ h=>h)).mono fun e w' ⟨v,m',H',a,b,c⟩=>⟨by rw[a,c],b.below⟩
open Go
theorem Br.struct{P:Program}{t:TypeId}{fs:Array Field}{α:Type}[Enc α][Rng α](hu:P.underlying t=some (.struct fs))(hc:P.cellsOf t=Enc.sz α)
 (step:∀(W:World) (cs:List Value),(∀(i:Nat) (f:Field) (β:Type) [Enc β] [Rng β],fs[i]?=some f→Nat.ble (i+1) fs.size=true→Br P f.type β→∃a:β,Enc.rd (Mem.all W) ((cs.drop f.offset).take (Enc.sz β)) a∧Rng.ok a)→
  cs.drop (Enc.sz α)=[]→∃a:α,Enc.rd (Mem.all W) cs a∧Rng.ok a):Br P t α:=by
 refine⟨hc,fun enc W fuel cs d ps h l=>?_⟩
 obtain⟨xs,fu,_,g,o,c,n⟩:=DataW.trod_struct hu h
 simp only[Prod.mk.injEq]at g
 obtain⟨rfl,_⟩:=g
 refine step W cs (fun i f β _ _ hi m b=>?_) (SV (by omega))
 obtain⟨y,k⟩:=A1b (i:=i) c m
 have f0:=n i f hi
 rw[b.1]at f0
 exact b.2 enc W _ _ y.1 y.2 (f0.trans k) (A3e hu l (i:=i) hi k)
theorem ct{cs L r:List Value}{o z:Nat}(h:(cs.drop o).take z=L)(k:cs.drop (o+z)=r):cs.drop o=L++r:=by rw[A9e cs o z,h,k]
open Classical in
noncomputable def W9{α:Type}[Flat α](z:Value):List MapEntry→α→Value
 | [],_=>z
 |e::es,k=>if e.key= .agg (Flat.enc k).toArray then e.val else W9 z es k
theorem KeyT.inj{P:Program}{t:TypeId}{α:Type}[Flat α][DecidableEq α](h:KeyT P t α){a b:α}(w:World)(he:Value.agg (Flat.enc a).toArray= .agg (Flat.enc b).toArray):a=b:=by
 have c:=h.eq a b w
 have d:=h.eq a a w
 rw[←he,d]at c
 simp at c
 exact c
open Classical in
theorem Do{P:Program}{t:TypeId}{α:Type}[Flat α][DecidableEq α](h:KeyT P t α)(w0:World)(z:Value)(k:α):∀(es:List MapEntry) (i:Nat),Bp α es→
 ∃r,(∀w,(Instr.findAsking t (.agg (Flat.enc k).toArray) es i).run P w= .ok r w)∧
  (r=none→W9 z es k=z∧∀(e:MapEntry),e.key= .agg (Flat.enc k).toArray→∀k',W9 z (es++[e]) k'=if k'=k then e.val else W9 z es k')∧
  (∀j v,r=some (j,v)→i≤j∧v=W9 z es k∧(∃e,es[j-i]?=some e∧e.key= .agg (Flat.enc k).toArray)∧∀U k',W9 z (es.modify (j-i) fun e=>{e with key:=.agg (Flat.enc k).toArray,val:=U}) k'=if k'=k then U else W9 z es k')
 | [],i,_=>⟨none,fun w=>by simp[Instr.findAsking],fun _=>⟨rfl,fun e l k'=>by
  show(if e.key= .agg (Flat.enc k').toArray then e.val else z)=_
  rw[l]
  by_cases g:k'=k
  ·subst g;rw[D' rfl,D' rfl]
  ·rw[A' (fun c=>g (h.inj w0 c).symm),A' g];rfl⟩,fun j v h=>by cases h⟩
 |e::es,i,hk=>by
  obtain⟨q,b⟩:=hk e (Sf ..)
  obtain⟨r,ih,s,u⟩:=Do h w0 z k es (i+1) (fun e l=>hk e (Sg _ l))
  by_cases g:k=q
  ·subst g
   refine⟨some (i,e.val),fun w=>?_,(fun h=>by cases h),fun j v f=>?_⟩
   ·rw[Instr.findAsking,b]
    simp[h.eq]
   ·cases f
    refine⟨E' _,?_,⟨e,by simp,b⟩,fun U k'=>?_⟩
    ·show _=if e.key= .agg (Flat.enc k).toArray then e.val else W9 z es k
     rw[D' b]
    ·rw[SY]
     show W9 z ({e with key:=.agg (Flat.enc k).toArray,val:=U}::es) k'=_
     show(if(Value.agg (Flat.enc k).toArray)= .agg (Flat.enc k').toArray then U else W9 z es k')=_
     by_cases a:k'=k
     ·subst a;rw[D' rfl,D' rfl]
     ·rw[A' (fun c=>a (h.inj w0 c).symm),A' a]
      show _=if e.key= .agg (Flat.enc k').toArray then e.val else W9 z es k'
      rw[A' (fun c=>a (h.inj w0 (b.symm.trans c)).symm)]
  ·have d:¬e.key= .agg (Flat.enc k).toArray:=fun c=>g (h.inj w0 (c.symm.trans b))
   refine⟨r,fun w=>?_,fun p=>?_,fun j v f=>?_⟩
   ·rw[Instr.findAsking,b]
    simp[h.eq,g,ih]
   ·obtain⟨c,n⟩:=s p
    refine⟨?_,fun e' m k'=>?_⟩
    ·show(if e.key= .agg (Flat.enc k).toArray then e.val else W9 z es k)=z
     rw[A' d,c]
    ·show(if e.key= .agg (Flat.enc k').toArray then e.val else W9 z (es++[e']) k')=if k'=k then e'.val else if e.key= .agg (Flat.enc k').toArray then e.val else W9 z es k'
     rw[n e' m k']
     by_cases a:k'=k
     ·subst a;rw[A' d,D' rfl,D' rfl]
     ·rw[A' a,A' a]
   ·obtain⟨c,n,⟨e',x,y⟩,A⟩:=u j v f
    have o:j-i=(j-(i+1))+1:=by omega
    refine⟨by omega,?_,⟨e',?_,y⟩,fun U k'=>?_⟩
    ·show v=if e.key= .agg (Flat.enc k).toArray then e.val else W9 z es k
     rw[A' d];exact n
    ·rw[o];simpa using x
    ·rw[o]
     show(if e.key= .agg (Flat.enc k').toArray then e.val else W9 z (es.modify (j-(i+1)) _) k')=if k'=k then U else if e.key= .agg (Flat.enc k').toArray then e.val else W9 z es k'
     rw[A U k']
     by_cases a:k'=k
     ·subst a;rw[A' d,D' rfl,D' rfl]
     ·rw[A' a,A' a]
theorem JG{P:Program}{t:TypeId}{α:Type}[Flat α][DecidableEq α](h:KeyT P t α)(w0:World)(z:Value)(k:α)(es:List MapEntry)(hk:Bp α es):
 ∃r,(∀w,(Instr.findKey t (.agg (Flat.enc k).toArray) es).run P w= .ok r w)∧
  (r=none→W9 z es k=z∧∀(e:MapEntry),e.key= .agg (Flat.enc k).toArray→∀k',W9 z (es++[e]) k'=if k'=k then e.val else W9 z es k')∧
  (∀j v,r=some (j,v)→v=W9 z es k∧(∃e,es[j]?=some e∧e.key= .agg (Flat.enc k).toArray)∧∀U k',W9 z (es.modify j fun e=>{e with key:=.agg (Flat.enc k).toArray,val:=U}) k'=if k'=k then U else W9 z es k'):=by
 obtain⟨fs,d⟩:=h.und
 cases es with
 |nil=>
  obtain⟨r,b,c,f⟩:=Do h w0 z k [] 0 hk
  have a:r=none:=by
   have:=b w0
   simp[Instr.findAsking]at this
   exact this.symm
  subst a
  exact⟨none,fun w=>by simp[Instr.findKey,d,Instr.findNow],c,fun j v h=>by cases h⟩
 |cons e es=>
  obtain⟨r,b,c,f⟩:=Do h w0 z k (e::es) 0 hk
  obtain⟨k',g⟩:=hk e (Sf ..)
  refine⟨r,fun w=>?_,c,fun j v a=>by have:=f j v a;exact this.2⟩
  have:Instr.findNow (.struct fs) (.agg (Flat.enc k).toArray) (e::es) 0=none:=by simp[Instr.findNow,Instr.sameNow]
  simp[Instr.findKey,d,this,b]
def Be(b:Nat){α:Type}[Flat α](z:Value)(f:α→Value):Ent where
 ids:=[b]
 holds w:=∃es clock,w.heap[b]?=some (.map es clock)∧Bp α es.toList∧∀k:α,W9 z es.toList k=f k
 loc w w' h hw:=by rw[h b (Sp.2 rfl)];exact hw
 bound w hw b' hb:=by
  have:b'=b:=by simpa using hb
  obtain⟨es,clock,h,_⟩:=hw
  subst this;exact(SA.1 h).1
def MapZ(m:Mem)(b:Nat){α:Type}[Flat α](z:Value)(f:α→Value):Prop:=∃es clock,m b=some (.map es clock)∧Bp α es.toList∧∀k:α,W9 z es.toList k=f k
theorem MapZ.mono{m m':Mem}{b:Nat}{α:Type}[Flat α]{z:Value}{f:α→Value}(h:MapZ m b z f)(hm:m.le m'):MapZ m' b z f:=by
 obtain⟨es,c,a,d,g⟩:=h
 exact⟨es,c,hm _ _ a,d,g⟩
section
variable{P:Program}{B:Base}{m:Mem}{H:List Ent}{σ:B6}{ty:TypeId}
theorem A2K{t:TypeId}(α:Type)[Flat α](z:Value):OpTo P B m H σ (.makeMap t none) ty (fun u m' H'=>m'=m∧∃b,u= .map (some b)∧H'=Be b z (fun _:α=>z)::H):=
 .ofRun trivial (by intro x d;simp[Op.operands]at d) fun w a o c _=>by
  refine⟨.map (some w.heap.size),w.alloc (.map #[] 0),.inl (by simp[execOp,c,Instr.makeMap,go_sem]),m,_,⟨rfl,_,rfl,rfl⟩,?_⟩
  exact a.push (Ext.alloc w _) (Be w.heap.size z (fun _:α=>z)) ⟨#[],0,by show(w.heap.push _)[_]?=_;simp,(by intro e f;simp at f),fun k=>rfl⟩ (by simp[Be]) (by simp[Be])
theorem A6T{x y:Operand}{t kt et:TypeId}{b:Nat}{α:Type}[Flat α][DecidableEq α]{z:Value}{f:α→Value}{k:α}(ht:∀w,(underlying t).run P w= .ok (.map kt et) w)(hK:KeyT P kt α)(hz:∀w,(zeroValue et).run P w= .ok z w)
 (hx:ev σ x=some (.map (some b))) (hy:ev σ y=some (.agg (Flat.enc k).toArray)) (hM:MapZ m b z f):OpX P B m H σ (.lookup t x y false) ty (f k):=
 .ofRun trivial (D1 rfl hx hy) fun w a o c _=>by
  obtain⟨es,clock,d,n,g⟩:=hM
  obtain⟨r,l,q,s⟩:=JG hK w z k es.toList n
  cases r with
  |none=>rw[←g k,(q rfl).1];simp[execOp,c,A6 hx,A6 hy,Instr.lookup,ht,I4 (a.sub _ _ d),hK.chk,l,hz]
  |some p=>
   obtain⟨j,v⟩:=p
   rw[←g k,←(s j v rfl).1]
   simp[execOp,c,A6 hx,A6 hy,Instr.lookup,ht,I4 (a.sub _ _ d),hK.chk,l]
theorem A0r{x y u:Operand}{t kt et:TypeId}{j b:Nat}{α:Type}[Flat α][DecidableEq α]{z:Value}{f:α→Value}{k:α}{v:Value}(ht:∀w,(underlying t).run P w= .ok (.map kt et) w)(hK:KeyT P kt α)
 (hx:ev σ x=some (.map (some b))) (hy:ev σ y=some (.agg (Flat.enc k).toArray)) (hu:ev σ u=some v) (hH:A7 H j=some (Be b z f)):
 OpTo P B m H σ (.mapUpdate t x y u) ty (fun _ m' H'=>m'=m∧H'=H4 H j (Be b z (fun q=>if q=k then v else f q))):=by
 refine .ofRun trivial (JM rfl hx hy hu) fun w n o D _=>?_
 obtain⟨es,clock,a,s,E⟩:=C3 n hH
 obtain⟨r,F,G,I⟩:=JG hK w z k es.toList s
 obtain⟨A,C,rfl,d,_⟩:=N0 hH
 cases r with
 |none=>
  refine⟨undef,w.putObj b (.map (es.push {key:=.agg (Flat.enc k).toArray,val:=v,born:=clock}) (clock+1)),.inr ⟨?_,rfl⟩,m,_,⟨rfl,rfl⟩,?_⟩
  ·simp[execOp,D,A6 hx,A6 hy,A6 hu,Instr.mapUpdate,ht,I4 a,hK.chk,F,Y5 _ a]
  ·rw[d]
   refine n.swap rfl rfl ⟨_,_,World.putObj_heap_same (SA.1 a).1,fun e g=>?_,fun q=>?_⟩
   ·rcases(by simpa using g:e∈es∨e=_)with l|rfl
    ·exact s e (by simpa using l)
    ·exact⟨k,rfl⟩
   ·rw[Array.toList_push,(G rfl).2 _ rfl q,E q]
 |some p=>
  obtain⟨i,J⟩:=p
  obtain⟨_,⟨M,l,K⟩,L⟩:=I i J rfl
  have c:((es[i]?).map (·.key)).getD (.agg (Flat.enc k).toArray)= .agg (Flat.enc k).toArray:=by
   rw[Uw]at l
   rw[l];exact K
  refine⟨undef,w.putObj b (.map (es.modify i fun e=>{e with key:=.agg (Flat.enc k).toArray,val:=v}) clock),.inr ⟨?_,rfl⟩,m,_,⟨rfl,rfl⟩,?_⟩
  ·simp[execOp,D,A6 hx,A6 hy,A6 hu,Instr.mapUpdate,ht,I4 a,hK.chk,F,c,Instr.keyThatStays,hK.bits,Y5 _ a]
  ·rw[d]
   refine n.swap rfl rfl ⟨_,_,World.putObj_heap_same (SA.1 a).1,fun e g=>?_,fun q=>?_⟩
   ·rw[Te]at g
    rcases X6 g with h7|⟨e0,h7,rfl⟩
    ·exact s e h7
    ·exact⟨k,rfl⟩
   ·rw[Te,L v q,E q]
end
section
variable{N:Nat}{B:Base}{m:Mem}{H:List Ent}{σ:B6}{K:Act→World→Prop}
theorem Qh{b:Nat}{α:Type}[Flat α]{z:Value}{f:α→Value}(k:Nat)(hX:B.X=[])(hH:A7 H k=some (Be b z f))(kk:∀m',m.le m'→MapZ m' b z f→WK N B m' (X3 H k) σ K):WK N B m H σ K:=by
 intro Ds w g a q
 obtain⟨es,c,l,n,o⟩:=C3 g (S8 hH)
 obtain⟨d,p⟩:=g.freeze hX (S8 hH)
 rw[Ly hH]at d
 exact kk _ p ⟨es,c,by simp[Be,l],n,o⟩ Ds w d a q
theorem A9w{b:Nat}{α:Type}[Flat α]{z:Value}{f f':α→Value}(k:Nat)(hH:A7 H k=some (Be b z f))(hf:∀q,f q=f' q)(kk:WK N B m (H4 H k (Be b z f')) σ K):WK N B m H σ K:=by
 obtain rfl:f=f':=funext hf
 obtain⟨A,C,rfl,a,_⟩:=N0 hH
 rwa [a]at kk
end
end Go.Kx
