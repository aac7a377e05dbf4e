/- The law TopProof: it returns true for every input; its arguments read as before. No condition beyond what the given row says. -/
import Derived.Test.YtooomcigmleneaaGreatT10V6
import Derived.Test.YtooomcigmleneaaGreatT10J
import Derived.WalkKit
import Derived.ShutString
import Derived.Below
set_option linter.all false
namespace Go.Proofs.YtooomcigmleneaaGreat
open Go Go.Kx Go.Proofs.T10 Go.Proofs.S10
namespace LTopProof
theorem own:ownKnob Tryz.prog.godebug=none:=by kernel_rfl
theorem laidOut:laidOutB Tryz.prog=true:=by kernel_rfl
set_option maxRecDepth 100000 in
theorem lifted(os:Os)(started:os.Started)(H:Type)(enc:TypeId×Value→H):
 ReturnsInHanded {} Tryz.checked os 6 .any (Rows.topProofSpec.pre6 enc Tryz.prog Tryz.f6 Rows.topProofRow.domain false) (Rows.topProofSpec.post enc Tryz.prog Tryz.f6 false true false false):=by
 refine returnsInHanded_of_change_sized (C:=Tryz.checked) own started (by kernel_rfl) Tryz.func6
  (ChangeSpec.witness6 (enc:=enc) (C:=Tryz.checked) false ⟨#[],#[.agg #[.slice none 0 0,J 0,J 0,J 0,J 0,J 0],.slice none 0 0,J 0,J 0],[]⟩ 8 (by kernel_rfl) (by kernel_rfl) (by kernel_rfl) (by kernel_rfl)) ?_
 intro W base args ds gs before hval0 hW hcnd hwt _
 have hval:∀(j:Nat) t v,Tryz.f6.params[j]?=some t→args[j]?=some v→Value.okWide Tryz.prog W .any base t v:=hval0
 have hW':=hW
 obtain⟨p,q,hA0,hV,rfl,hfz,hnd⟩:=hW
 have hA:DataW.TrodAll enc Tryz.prog W 0 (fun _=>true) true Tryz.f6.params.toList args.toList ds p:=hA0
 rw[Tryz.params6]at hA hval
 obtain⟨v0,vs0,d0,ds0,p0,q0,hargs,rfl,rfl,h0,r0⟩:=ChangeShapes.trodAll_cons hA
 obtain⟨v1,vs1,d1,ds1,p1,q1,rfl,rfl,rfl,h1,r1⟩:=ChangeShapes.trodAll_cons r0
 obtain⟨v2,vs2,d2,ds2,p2,q2,rfl,rfl,rfl,h2,r2⟩:=ChangeShapes.trodAll_cons r1
 obtain⟨v3,vs3,d3,ds3,p3,q3,rfl,rfl,rfl,h3,r3⟩:=ChangeShapes.trodAll_cons r2
 obtain⟨rfl,rfl,rfl⟩:=ChangeShapes.trodAll_nil r3
 obtain rfl:args=#[v0,v1,v2,v3]:=by cases args;simp_all
 obtain⟨rfl,rfl⟩:=ChangeShapes.trodVars_none hV
 have hwts:(DataW.weightsEach Tryz.prog [51,52,3,3] [d0,d1,d2,d3]).all (· ≤reachBytes)=true:=hwt
 have lt0:∀x∈p0,x.block<W.heap.size:=by obtain⟨m,hm⟩:=h0;exact DataW.trod_lt m _ _ _ hm
 have lt1:∀x∈p1,x.block<W.heap.size:=by obtain⟨m,hm⟩:=h1;exact DataW.trod_lt m _ _ _ hm
 have lt2:∀x∈p2,x.block<W.heap.size:=by obtain⟨m,hm⟩:=h2;exact DataW.trod_lt m _ _ _ hm
 have lt3:∀x∈p3,x.block<W.heap.size:=by obtain⟨m,hm⟩:=h3;exact DataW.trod_lt m _ _ _ hm
 have g0:=hval 0 51 v0 rfl rfl
 have k0:=h0
 obtain⟨c0,x0,rfl,s0,ok0⟩:=B3S B7G Tryz.underlying51 g0 h0 (B0o hwts (j:=0) rfl rfl)
 have g1:=hval 1 52 v1 rfl rfl
 have k1:=h1
 obtain⟨x1,s1,ok1⟩:=B4w B7n Tryz.underlying52 g1 h1 (B0o hwts (j:=1) rfl rfl)
 have g2:=hval 2 3 v2 rfl rfl
 have k2:=h2
 obtain⟨x2,rfl,lo2,hi2⟩:=A1n Tryz.underlying3 g2 h2
 have g3:=hval 3 3 v3 rfl rfl
 have k3:=h3
 obtain⟨x3,rfl,lo3,hi3⟩:=A1n Tryz.underlying3 g3 h3
 clear hA0 hval0
 refine(A6x (Go.Proofs.S10.law6 (Mem.all W) c0 x0 s0 _ x1 s1 x2 x3 ok0 ok1 lo2 hi2 lo3 hi3)).mono fun e W' ⟨he,bel⟩=>?_
 subst he
 exact⟨_,rfl,_,_,_,[],_,[],hW',ChangeShapes.trodAll_mk1 (RowKit.shut_bool Tryz.underlying4 _),(trodAll_cons_mk (RowKit.Below.trod laidOut (by kernel_rfl) (of_decide_eq_true (by kernel_rfl)) k0 bel lt0) (trodAll_cons_mk (RowKit.Below.trod laidOut (by kernel_rfl) (of_decide_eq_true (by kernel_rfl)) k1 bel lt1) (trodAll_cons_mk (RowKit.Below.trod laidOut (by kernel_rfl) (of_decide_eq_true (by kernel_rfl)) k2 bel lt2) (trodAll_cons_mk (RowKit.Below.trod laidOut (by kernel_rfl) (of_decide_eq_true (by kernel_rfl)) k3 bel lt3) ChangeShapes.trodAll_mk0)))),rfl,bel.frame _,fun h=>by cases h⟩
theorem j10:(Rows.topProofRow.inPlace == Tryz.checked.prog.inPlace 6)=true:=by kernel_rfl
theorem j11:(Rows.topProofRow.unfollowed == Tryz.checked.prog.unfollowed 6)=true:=by kernel_rfl
theorem j12:(Rows.topProofRow.recurses == Tryz.checked.prog.recurses 6)=true:=by kernel_rfl
theorem j13:(Rows.topProofRow.named == Tryz.checked.prog.varsNamed 6)=true:=by kernel_rfl
theorem closed:joinedFacts Tryz.checked.prog 6 Tryz.f6 Rows.topProofSpec Rows.topProofRow=true:=by
 unfold joinedFacts
 repeat' (with_reducible refine B6l ?_ ?_)
 ·kernel_rfl
 ·exact laidOut
 ·kernel_rfl
 ·kernel_rfl
 ·kernel_rfl
 ·kernel_rfl
 ·kernel_rfl
 ·kernel_rfl
 ·kernel_rfl
 ·exact j10
 ·exact j11
 ·exact j12
 ·exact j13
 ·kernel_rfl
 ·kernel_rfl
 ·kernel_rfl
 ·kernel_rfl
 ·kernel_rfl
 ·kernel_rfl
 ·kernel_rfl
 ·kernel_rfl
 ·kernel_rfl
 ·kernel_rfl
 ·kernel_rfl
 ·kernel_rfl
 ·exact B3O
 ·exact B5R
 ·exact B5H
 ·kernel_rfl
 ·kernel_rfl
 ·kernel_rfl
 ·kernel_rfl
theorem over:Rows.topProofRow.holds Tryz.pinned (OpenSpec.ofChange Rows.topProofSpec):=
 OpenClaim.holds_of_wide 6 Tryz.f6 rfl rfl rfl rfl rfl rfl rfl ⟨rfl,rfl,rfl,rfl,rfl⟩ rfl rfl rfl rfl rfl (by kernel_rfl) Tryz.func6 closed
  (of_decide_eq_true (by kernel_rfl)) (by unfold Func.isWrapper;first|(rw[if_pos (by decide+kernel)];kernel_rfl)|(rw[if_neg (by decide+kernel)];exact⟨rfl,rfl⟩))
  (fun os started H enc _=>lifted os started H enc)
end LTopProof
theorem topProof_holds:Rows.TopProofSaid:=LTopProof.over
end Go.Proofs.YtooomcigmleneaaGreat
