import Derived.Test.YtednficclnjmjaaC8Lin
import Derived.Test.YtednficclnjmjaaC8W14
/- Century: walks, fifteenth part, by program. -/
namespace Go.Proofs.C8
open Go Go.Kx
set_option linter.unusedSimpArgs false

theorem clone114 (m : Mem) {v : Value} {L : List Val} (hL : Sl m v L) (hn : L.length ≤ 1000) : Mut Try.prog 114 #[v] m [] (fun _ Es u => Es = [rowF u 62 L] ∧ u.oneCell' = true) := by
 refine Mut.start Try.func114 rfl Try.ntmps114 rfl fun wld => ?_
 refine WC.seq ?_
 refine WC.region ?_
 refine WL.x (X.assign rfl) (by decide) ?_
 refine WL.nil ?_
 refine WK.nThen ?_
 refine WC.seq ?_
 refine WC.seq ?_
 refine WC.region ?_
 refine WL.x (X.move rfl) (by decide) ?_
 refine WL.condb (X.eqlNil Try.underlying22 rfl rfl hL) (by decide) (fun h1 => ?_) (fun h1 => ?_)
 ·refine WL.nil ?_
  refine WK.nThen ?_
  refine WC.condT rfl ?_
  refine WC.seq ?_
  obtain rfl := hL.nil_of (by assumption)
  refine WK.ownF Val 62 ?_
  refine WC.region ?_
  refine WL.x (X.assign rfl) (by decide) ?_
  refine WL.nil ?_
  refine WK.nThen ?_
  refine WC.ret ?_
  refine WK.rThen ?_
  refine WK.ret1 rfl rfl (fun w' hw' => Ret.mut hw' ?_)
  first | exact ⟨rfl, rfl⟩ | exact ⟨rfl, ho_⟩
 ·refine WL.nil ?_
  refine WK.nThen ?_
  refine WC.condF rfl ?_
  refine WC.skip ?_
  refine WK.nThen ?_
  refine WC.seq ?_
  refine WC.region ?_
  refine WL.ta (T.lit0 (α := Val) sl22 rfl) (by decide) (fun v2 => ?_)
  refine WL.x (X.move rfl) (by decide) ?_
  refine WL.ta (T.appendFl (α := Val) (fun _ _ _ h => h) (k := 0) sl22 rfl rfl hL rfl (by first | omega | (simp; omega)) (by first | omega | (simp; omega))) (by decide) (fun v3 => ?_)
  refine WL.own1 (k := 0) rfl (fun ho_ => ?_)
  refine WL.x (X.assign rfl) (by decide) ?_
  refine WL.nil ?_
  refine WK.nThen ?_
  refine WC.ret ?_
  refine WK.ret1 rfl rfl (fun w' hw' => Ret.mut hw' ?_)
  first | exact ⟨rfl, rfl⟩ | exact ⟨rfl, ho_⟩

theorem clone115 (m : Mem) {v : Value} {L : List Shf} (hL : Sl m v L) (hn : L.length ≤ 1000) : Mut Try.prog 115 #[v] m [] (fun _ Es u => Es = [rowF u 72 L] ∧ u.oneCell' = true) := by
 refine Mut.start Try.func115 rfl Try.ntmps115 rfl fun wld => ?_
 refine WC.seq ?_
 refine WC.region ?_
 refine WL.x (X.assign rfl) (by decide) ?_
 refine WL.nil ?_
 refine WK.nThen ?_
 refine WC.seq ?_
 refine WC.seq ?_
 refine WC.region ?_
 refine WL.x (X.move rfl) (by decide) ?_
 refine WL.condb (X.eqlNil Try.underlying23 rfl rfl hL) (by decide) (fun h1 => ?_) (fun h1 => ?_)
 ·refine WL.nil ?_
  refine WK.nThen ?_
  refine WC.condT rfl ?_
  refine WC.seq ?_
  obtain rfl := hL.nil_of (by assumption)
  refine WK.ownF Shf 72 ?_
  refine WC.region ?_
  refine WL.x (X.assign rfl) (by decide) ?_
  refine WL.nil ?_
  refine WK.nThen ?_
  refine WC.ret ?_
  refine WK.rThen ?_
  refine WK.ret1 rfl rfl (fun w' hw' => Ret.mut hw' ?_)
  first | exact ⟨rfl, rfl⟩ | exact ⟨rfl, ho_⟩
 ·refine WL.nil ?_
  refine WK.nThen ?_
  refine WC.condF rfl ?_
  refine WC.skip ?_
  refine WK.nThen ?_
  refine WC.seq ?_
  refine WC.region ?_
  refine WL.ta (T.lit0 (α := Shf) sl23 rfl) (by decide) (fun v2 => ?_)
  refine WL.x (X.move rfl) (by decide) ?_
  refine WL.ta (T.appendFl (α := Shf) (fun _ _ _ h => h) (k := 0) sl23 rfl rfl hL rfl (by first | omega | (simp; omega)) (by first | omega | (simp; omega))) (by decide) (fun v3 => ?_)
  refine WL.own1 (k := 0) rfl (fun ho_ => ?_)
  refine WL.x (X.assign rfl) (by decide) ?_
  refine WL.nil ?_
  refine WK.nThen ?_
  refine WC.ret ?_
  refine WK.ret1 rfl rfl (fun w' hw' => Ret.mut hw' ?_)
  first | exact ⟨rfl, rfl⟩ | exact ⟨rfl, ho_⟩

end Go.Proofs.C8
