/- The law TopMixing: it returns true for every input; its arguments read as before. No condition beyond what the given row says. -/
import Derived.Test.YtooomcigmleneaaGreatT10V5
import Derived.Test.YtooomcigmleneaaGreatT10Ty
import Derived.Test.YtooomcigmleneaaGreatT10J
import Derived.Test.YtooomcigmleneaaGreatKxL
import Derived.Test.YtooomcigmleneaaGreatKyP
import Derived.Test.YtooomcigmleneaaGreatRows
import Derived.WalkKit
import Derived.ProofKit
import Derived.OpenShut
import Derived.ShutString
import Derived.ChangeOld
import Derived.Below
set_option linter.all false
namespace Go.Proofs.YtooomcigmleneaaGreat
open Go Go.Kx Go.Proofs.T10 Go.Proofs.S10
namespace LTopMixing
theorem own:ownKnob Tryz.prog.godebug=none:=by kernel_rfl
theorem laidOut:laidOutB Tryz.prog=true:=by kernel_rfl
set_option maxRecDepth 100000 in
theorem lifted(os:Os)(started:os.Started)(H:Type)(enc:TypeId×Value→H):
 ReturnsInHanded {} Tryz.checked os 5 .any (Rows.topMixingSpec.pre6 enc Tryz.prog Tryz.f5 Rows.topMixingRow.domain false) (Rows.topMixingSpec.post enc Tryz.prog Tryz.f5 false true false false):=by
 refine returnsInHanded_of_change_sized (C:=Tryz.checked) own started (by kernel_rfl) Tryz.func5
  (ChangeSpec.witness6 (enc:=enc) (C:=Tryz.checked) false ⟨#[],#[.agg #[.slice none 0 0,J 0,J 0,J 0,J 0,J 0],.slice none 0 0,J 0,.slice none 0 0,.slice none 0 0],[]⟩ 8 (by kernel_rfl) (by kernel_rfl) (by kernel_rfl) (by kernel_rfl)) ?_
 intro W base args ds gs before hval0 hW hcnd hwt _
 have hval:∀(j:Nat) t v,Tryz.f5.params[j]?=some t→args[j]?=some v→Value.okWide Tryz.prog W .any base t v:=hval0
 have hW':=hW
 obtain⟨p,q,hA0,hV,rfl,hfz,hnd⟩:=hW
 have hA:DataW.TrodAll enc Tryz.prog W 0 (fun _=>true) true Tryz.f5.params.toList args.toList ds p:=hA0
 rw[Tryz.params5]at hA hval
 obtain⟨v0,vs0,d0,ds0,p0,q0,hargs,rfl,rfl,h0,r0⟩:=ChangeShapes.trodAll_cons hA
 obtain⟨v1,vs1,d1,ds1,p1,q1,rfl,rfl,rfl,h1,r1⟩:=ChangeShapes.trodAll_cons r0
 obtain⟨v2,vs2,d2,ds2,p2,q2,rfl,rfl,rfl,h2,r2⟩:=ChangeShapes.trodAll_cons r1
 obtain⟨v3,vs3,d3,ds3,p3,q3,rfl,rfl,rfl,h3,r3⟩:=ChangeShapes.trodAll_cons r2
 obtain⟨v4,vs4,d4,ds4,p4,q4,rfl,rfl,rfl,h4,r4⟩:=ChangeShapes.trodAll_cons r3
 obtain⟨rfl,rfl,rfl⟩:=ChangeShapes.trodAll_nil r4
 obtain rfl:args=#[v0,v1,v2,v3,v4]:=by cases args;simp_all
 obtain⟨rfl,rfl⟩:=ChangeShapes.trodVars_none hV
 have hwts:(DataW.weightsEach Tryz.prog [51,52,3,53,53] [d0,d1,d2,d3,d4]).all (· ≤reachBytes)=true:=hwt
 have lt0:∀x∈p0,x.block<W.heap.size:=by obtain⟨m,hm⟩:=h0;exact DataW.trod_lt m _ _ _ hm
 have lt1:∀x∈p1,x.block<W.heap.size:=by obtain⟨m,hm⟩:=h1;exact DataW.trod_lt m _ _ _ hm
 have lt2:∀x∈p2,x.block<W.heap.size:=by obtain⟨m,hm⟩:=h2;exact DataW.trod_lt m _ _ _ hm
 have lt3:∀x∈p3,x.block<W.heap.size:=by obtain⟨m,hm⟩:=h3;exact DataW.trod_lt m _ _ _ hm
 have lt4:∀x∈p4,x.block<W.heap.size:=by obtain⟨m,hm⟩:=h4;exact DataW.trod_lt m _ _ _ hm
 have g0:=hval 0 51 v0 rfl rfl
 have k0:=h0
 obtain⟨c0,x0,rfl,s0,ok0⟩:=C5K C8c Tryz.underlying51 g0 h0 (B2t hwts (j:=0) rfl rfl)
 have g1:=hval 1 52 v1 rfl rfl
 have k1:=h1
 obtain⟨x1,s1,ok1⟩:=B3S C8G Tryz.underlying52 g1 h1 (B2t hwts (j:=1) rfl rfl)
 have g2:=hval 2 3 v2 rfl rfl
 have k2:=h2
 obtain⟨x2,rfl,lo2,hi2⟩:=C3X Tryz.underlying3 g2 h2
 have g3:=hval 3 53 v3 rfl rfl
 have k3:=h3
 obtain⟨x3,s3,ok3⟩:=B3S C6x Tryz.underlying53 g3 h3 (B2t hwts (j:=3) rfl rfl)
 have g4:=hval 4 53 v4 rfl rfl
 have k4:=h4
 obtain⟨x4,s4,ok4⟩:=B3S C6x Tryz.underlying53 g4 h4 (B2t hwts (j:=4) rfl rfl)
 clear hA0 hval0
 refine(B8Y (Go.Proofs.S10.law5 (Mem.all W) c0 x0 s0 _ x1 s1 x2 _ x3 s3 _ x4 s4 ok0 ok1 lo2 hi2 ok3 ok4)).mono fun e W' ⟨he,bel⟩=>?_
 subst he
 exact⟨_,rfl,_,_,_,[],_,[],hW',ChangeShapes.trodAll_mk1 (RowKit.shut_bool Tryz.underlying4 _),(trodAll_cons_mk (RowKit.Below.trod laidOut (by kernel_rfl) (of_decide_eq_true (by kernel_rfl)) k0 bel lt0) (trodAll_cons_mk (RowKit.Below.trod laidOut (by kernel_rfl) (of_decide_eq_true (by kernel_rfl)) k1 bel lt1) (trodAll_cons_mk (RowKit.Below.trod laidOut (by kernel_rfl) (of_decide_eq_true (by kernel_rfl)) k2 bel lt2) (trodAll_cons_mk (RowKit.Below.trod laidOut (by kernel_rfl) (of_decide_eq_true (by kernel_rfl)) k3 bel lt3) (trodAll_cons_mk (RowKit.Below.trod laidOut (by kernel_rfl) (of_decide_eq_true (by kernel_rfl)) k4 bel lt4) ChangeShapes.trodAll_mk0))))),rfl,bel.frame _,fun h=>by cases h⟩
theorem j10:(Rows.topMixingRow.inPlace == Tryz.checked.prog.inPlace 5)=true:=by kernel_rfl
theorem j11:(Rows.topMixingRow.unfollowed == Tryz.checked.prog.unfollowed 5)=true:=by kernel_rfl
theorem j12:(Rows.topMixingRow.recurses == Tryz.checked.prog.recurses 5)=true:=by kernel_rfl
theorem j13:(Rows.topMixingRow.named == Tryz.checked.prog.varsNamed 5)=true:=by kernel_rfl
theorem closed:joinedFacts Tryz.checked.prog 5 Tryz.f5 Rows.topMixingSpec Rows.topMixingRow=true:=by
 unfold joinedFacts
 repeat' (with_reducible refine C6R ?_ ?_)
 ·kernel_rfl
 ·exact laidOut
 ·kernel_rfl
 ·kernel_rfl
 ·kernel_rfl
 ·kernel_rfl
 ·kernel_rfl
 ·kernel_rfl
 ·kernel_rfl
 ·exact j10
 ·exact j11
 ·exact j12
 ·exact j13
 ·kernel_rfl
 ·kernel_rfl
 ·kernel_rfl
 ·kernel_rfl
 ·kernel_rfl
 ·kernel_rfl
 ·kernel_rfl
 ·kernel_rfl
 ·kernel_rfl
 ·kernel_rfl
 ·kernel_rfl
 ·kernel_rfl
 ·exact C4W
 ·exact C7v
 ·exact C6S
 ·kernel_rfl
 ·kernel_rfl
 ·kernel_rfl
 ·kernel_rfl
theorem over:Rows.topMixingRow.holds Tryz.pinned (OpenSpec.ofChange Rows.topMixingSpec):=
 OpenClaim.holds_of_wide 5 Tryz.f5 rfl rfl rfl rfl rfl rfl rfl ⟨rfl,rfl,rfl,rfl,rfl⟩ rfl rfl rfl rfl rfl (by kernel_rfl) Tryz.func5 closed
  (of_decide_eq_true (by kernel_rfl)) (by unfold Func.isWrapper;first|(rw[if_pos (by decide+kernel)];kernel_rfl)|(rw[if_neg (by decide+kernel)];exact⟨rfl,rfl⟩))
  (fun os started H enc _=>lifted os started H enc)
end LTopMixing
theorem topMixing_holds:Rows.TopMixingSaid:=LTopMixing.over
end Go.Proofs.YtooomcigmleneaaGreat
