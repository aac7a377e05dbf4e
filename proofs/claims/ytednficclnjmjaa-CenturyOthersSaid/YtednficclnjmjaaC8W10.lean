import Derived.Test.YtednficclnjmjaaKxW
import Derived.Test.YtednficclnjmjaaC8Lin
import Derived.Test.YtednficclnjmjaaC8W9
/- Century: walks, tenth part, by program. -/
namespace Go.Proofs.C8
open Go Go.Kx
set_option linter.unusedSimpArgs false

theorem nan155 (m : Mem) (x : Int)   : Exact Try.prog 155 #[.int .i64 (x)] m (.bool false) := by
 refine Exact.start Try.func155 rfl Try.ntmps155 rfl fun wld => ?_
 refine WC.r ?_
 refine WL.ag rfl ?_
 refine WL.z ?_
 refine WC.r ?_
 refine WL.mv rfl ?_
 refine WL.mv rfl ?_
 refine WL.y (OpX.f (X.neq rfl rfl) (fun h => h rfl)) ?_
 refine WL.ag rfl ?_
 refine WL.z ?_
 refine WC.ret ?_
 refine WK.ret1 rfl rfl (fun w' hw' => Ret.exact hw' ?_)
 rfl

theorem cmp139 (m : Mem) (x : Int) (y : Int)   : Exact Try.prog 139 #[.int .i64 (x), .int .i64 (y)] m (.int .i64 (cmpR x y)) := by
 refine Exact.start Try.func139 rfl Try.ntmps139 rfl fun wld => ?_
 refine WC.r ?_
 refine WL.ag rfl ?_
 refine WL.z ?_
 refine WC.r ?_
 refine WL.mv rfl ?_
 refine WL.y (X.call Try.call155 rfl (nan155 _ _ )) ?_
 refine WL.ag rfl ?_
 refine WL.z ?_
 refine WC.r ?_
 refine WL.mv rfl ?_
 refine WL.y (X.call Try.call155 rfl (nan155 _ _ )) ?_
 refine WL.ag rfl ?_
 refine WL.z ?_
 refine WC.seq ?_
 refine WC.r ?_
 refine WL.mv rfl ?_
 refine WL.z ?_
 refine WC.condF rfl ?_
 refine WC.skip ?_
 refine WK.nThen ?_
 refine WC.seq ?_
 refine WC.r ?_
 refine WL.mv rfl ?_
 refine WL.z ?_
 refine WC.condF rfl ?_
 refine WC.skip ?_
 refine WK.nThen ?_
 refine WC.seq ?_
 refine WC.r ?_
 refine WL.mv rfl ?_
 refine WL.mv rfl ?_
 refine WL.cond (X.lss rfl rfl) (by decide) (fun h1 => ?_) (fun h1 => ?_)
 ·refine WL.z ?_
  refine WC.condT rfl ?_
  refine WC.r ?_
  refine WL.ag rfl ?_
  refine WL.z ?_
  refine WC.ret ?_
  refine WK.rThen ?_
  refine WK.ret1 rfl rfl (fun w' hw' => Ret.exact hw' ?_)
  first | exact int_eq (by unfold cmpR; rw [if_pos (by omega)]) | exact int_eq (by unfold cmpR; rw [if_neg (by omega), if_pos (by omega)]) | exact int_eq (by unfold cmpR; rw [if_neg (by omega), if_neg (by omega)])
 ·refine WL.z ?_
  refine WC.condF rfl ?_
  refine WC.skip ?_
  refine WK.nThen ?_
  refine WC.seq ?_
  refine WC.r ?_
  refine WL.mv rfl ?_
  refine WL.mv rfl ?_
  refine WL.cond (X.gtr rfl rfl) (by decide) (fun h2 => ?_) (fun h2 => ?_)
  ·refine WL.z ?_
   refine WC.condT rfl ?_
   refine WC.r ?_
   refine WL.ag rfl ?_
   refine WL.z ?_
   refine WC.ret ?_
   refine WK.rThen ?_
   refine WK.ret1 rfl rfl (fun w' hw' => Ret.exact hw' ?_)
   first | exact int_eq (by unfold cmpR; rw [if_pos (by omega)]) | exact int_eq (by unfold cmpR; rw [if_neg (by omega), if_pos (by omega)]) | exact int_eq (by unfold cmpR; rw [if_neg (by omega), if_neg (by omega)])
  ·refine WL.z ?_
   refine WC.condF rfl ?_
   refine WC.skip ?_
   refine WK.nThen ?_
   refine WC.r ?_
   refine WL.ag rfl ?_
   refine WL.z ?_
   refine WC.ret ?_
   refine WK.ret1 rfl rfl (fun w' hw' => Ret.exact hw' ?_)
   first | exact int_eq (by unfold cmpR; rw [if_pos (by omega)]) | exact int_eq (by unfold cmpR; rw [if_neg (by omega), if_pos (by omega)]) | exact int_eq (by unfold cmpR; rw [if_neg (by omega), if_neg (by omega)])

end Go.Proofs.C8
