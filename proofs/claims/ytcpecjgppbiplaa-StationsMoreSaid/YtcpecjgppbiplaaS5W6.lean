/- Stations: walks, by program: the reference, and Keeps. -/
import Derived.Test.YtcpecjgppbiplaaS5W5
namespace Go.Proofs.S5
open Go Go.Kx

theorem keeps25 (m : Mem) (cw : List Value) (w : Wind) (hw : Enc.rd m cw w) (vl : Value) (l : List Station) (hl : Sl m vl l) (week : Int) (vlist : Value) (list : List Int) (hlist : Sl m vlist list)   : Exact Try.prog 25 #[.agg cw.toArray, vl, .int .i64 (week), vlist] m (.tuple #[.bool ((keepsR w l week list).1), .int .i64 ((keepsR w l week list).2)]) := by
  obtain rfl := hw
  have ll := hl.le
  have llist := hlist.le
  refine Exact.start Try.func25 rfl Try.ntmps25 rfl fun wld => ?_
  refine WC.seq ?_
  refine WC.region ?_
  refine WL.tn (T.boxB rfl rfl) (by decide) fun b1 => ?_
  refine WL.x (X.assign rfl) (by decide) ?_
  refine WL.x (X.assign rfl) (by decide) ?_
  refine WL.nil ?_
  refine WK.nThen ?_
  refine WC.seq ?_
  refine WC.region ?_
  refine WL.x (X.loadBA (k := 0) Try.isAgg23 Try.sizeOf23 rfl rfl rfl) (by decide) ?_
  refine WL.x (X.move rfl) (by decide) ?_
  refine WL.x (X.move rfl) (by decide) ?_
  refine WL.x (X.move rfl) (by decide) ?_
  refine WL.tm (T.call Try.call27 rfl (seaside27 _ _ w rfl _ _ hl _ _ _ hlist )) (by decide) fun m2 r3 hle4 hR5 => ?_
  obtain ⟨v6, rfl, hs7⟩ := hR5
  replace hl := hl.mono hle4
  replace hlist := hlist.mono hle4
  have hl8 := hs7.le
  refine WL.x (X.move rfl) (by decide) ?_
  refine WL.x (X.extract rfl rfl) (by decide) ?_
  refine WL.x (X.extract rfl rfl) (by decide) ?_
  refine WL.x (X.assign rfl) (by decide) ?_
  refine WL.x (X.assign rfl) (by decide) ?_
  refine WL.nil ?_
  refine WK.nThen ?_
  refine WC.seq ?_
  refine WC.seq ?_
  refine WC.region ?_
  refine WL.x (X.move rfl) (by decide) ?_
  refine WL.cond (X.eql rfl rfl) (by decide) (fun h9 => ?_) (fun h9 => ?_)
  · refine WL.nil ?_
    refine WK.nThen ?_
    refine WC.condT rfl ?_
    refine WC.seq ?_
    refine WC.region ?_
    refine WL.x (X.assign rfl) (by decide) ?_
    refine WL.x (X.assign rfl) (by decide) ?_
    refine WL.nil ?_
    refine WK.nThen ?_
    refine WC.ret ?_
    refine WK.rThen ?_
    refine WK.ret2 rfl rfl rfl (fun w' hw' => Ret.exact hw' ?_)
    first | exact tup2 (bool_eq (by rw [keeps_no (by assumption)])) (int_eq (by rw [keeps_no (by assumption)]))
  · refine WL.nil ?_
    refine WK.nThen ?_
    refine WC.condF rfl ?_
    refine WC.skip ?_
    refine WK.nThen ?_
    refine WC.seq ?_
    refine WC.region ?_
    refine WL.x (X.move rfl) (by decide) ?_
    refine WL.x (X.eql rfl rfl) (by decide) ?_
    refine WL.x (X.move rfl) (by decide) ?_
    refine WL.x (X.assign rfl) (by decide) ?_
    refine WL.x (X.assign rfl) (by decide) ?_
    refine WL.nil ?_
    refine WK.nThen ?_
    refine WC.ret ?_
    refine WK.ret2 rfl rfl rfl (fun w' hw' => Ret.exact hw' ?_)
    first | exact tup2 (bool_eq (by rw [keeps_eq (by assumption)])) (int_eq (by rw [keeps_eq (by assumption)]))

end Go.Proofs.S5
