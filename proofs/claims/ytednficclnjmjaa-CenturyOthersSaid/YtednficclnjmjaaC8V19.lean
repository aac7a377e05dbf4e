import Derived.Test.YtednficclnjmjaaKxW
import Derived.Test.YtednficclnjmjaaC8Br
import Derived.Test.YtednficclnjmjaaC8W9
import Derived.Test.YtednficclnjmjaaC8W20
import Derived.Test.YtednficclnjmjaaKxQ
/- The walk of the statement CenturyOthers: its function answers true. -/
namespace Go.Proofs.C8
open Go Go.Kx
set_option linter.unusedSimpArgs false
set_option linter.unusedVariables false
set_option maxRecDepth 20000 in
set_option maxHeartbeats 4000000 in
theorem law19 (m : Mem) (cs : List Value) (s : Ser) (hs : Enc.rd m cs s) (ct : List Value) (t : Ser) (ht : Enc.rd m ct t) (time : Int) (cx : List Value) (x : Span) (hx : Enc.rd m cx x)  (ok0 : Rng.ok s) (ok1 : Rng.ok t) (lo2 : -9223372036854775808 ≤ time) (hi2 : time ≤ 9223372036854775807) (ok3 : Rng.ok x) : Exact Try.prog 19 #[.agg cs.toArray, .agg ct.toArray, .int .i64 (time), .agg cx.toArray] m (.bool true) := by
 obtain ⟨v1, v3, rfl, hs2, hs4⟩ := hs
 have hl5 := hs2.le
 have hl6 := hs4.le
 obtain ⟨v7, v9, rfl, hs8, hs10⟩ := ht
 have hl11 := hs8.le
 have hl12 := hs10.le
 obtain rfl := hx
 refine Exact.start Try.func19 rfl Try.ntmps19 rfl fun wld => ?_
 refine WC.r ?_
 refine WL.tn (T.boxB rfl rfl) (by decide) fun b13 => ?_
 refine WL.tn (T.boxB rfl rfl) (by decide) fun b14 => ?_
 refine WL.tn (T.boxB rfl rfl) (by decide) fun b15 => ?_
 refine WL.ag rfl ?_
 refine WL.z ?_
 refine WC.r ?_
 refine WL.y (X.call Try.call21 rfl (awake21 _  )) ?_
 refine WL.ag rfl ?_
 refine WL.z ?_
 refine WC.seq ?_
 refine WC.r ?_
 refine WL.y (X.loadBA (k := 2) Try.isAgg25 Try.sizeOf25 rfl rfl rfl) ?_
 refine WL.cond (X.call Try.call22 rfl (few22 _ _ s ⟨_, _, rfl, hs2, hs4⟩ )) (by decide) (fun h16 => ?_) (fun h16 => ?_)
 ·refine WL.y (X.not rfl) ?_
  refine WL.mv rfl ?_
  refine WL.yes rfl rfl ?_
  refine WL.y (X.loadBA (k := 1) Try.isAgg25 Try.sizeOf25 rfl rfl rfl) ?_
  refine WL.yes rfl rfl ?_
  refine WL.cond (X.call Try.call22 rfl (few22 _ _ t ⟨_, _, rfl, hs8, hs10⟩ )) (by decide) (fun h17 => ?_) (fun h17 => ?_)
  ·refine WL.yes rfl rfl ?_
   refine WL.y (X.not rfl) ?_
   refine WL.y (X.pickF rfl rfl rfl) ?_
   refine WL.z ?_
   refine WC.condF rfl ?_
   refine WC.skip ?_
   refine WK.nThen ?_
   refine WC.r ?_
   refine WL.y (X.loadBA (k := 2) Try.isAgg25 Try.sizeOf25 rfl rfl rfl) ?_
   refine WL.mv rfl ?_
   refine WL.y (X.loadBA (k := 0) Try.isAgg33 Try.sizeOf33 rfl rfl rfl) ?_
   refine WL.tm (T.call Try.call55 rfl (narrow55 _ _ s ⟨_, _, rfl, hs2, hs4⟩ _ _ x rfl )) (by decide) fun m18 r19 hle20 hR21 => ?_
   obtain ⟨c22, rfl, hc23⟩ := hR21
   replace hs2 := hs2.mono hle20
   replace hs4 := hs4.mono hle20
   replace hs8 := hs8.mono hle20
   replace hs10 := hs10.mono hle20
   obtain ⟨v24, v26, rfl, hs25, hs27⟩ := hc23
   have hl28 := hs25.le
   have hl29 := hs27.le
   refine WL.mv rfl ?_
   refine WL.y (X.extract rfl rfl) ?_
   refine WL.y (X.extract rfl rfl) ?_
   refine WL.tn (T.alloc Try.zeroValue25 rfl) (by decide) fun b30 => ?_
   refine WL.ts (T.storeBA (k := 0) Try.sizeOf25 rfl rfl rfl (one_cons hs25.one (one_cons hs27.one one_nil)) rfl rfl) ?_
   refine WL.ag rfl ?_
   refine WL.z ?_
   refine WC.r ?_
   refine WL.y (X.loadBA (k := 3) Try.isAgg25 Try.sizeOf25 rfl rfl rfl) ?_
   refine WL.mv rfl ?_
   refine WL.y (X.loadBA (k := 1) Try.isAgg33 Try.sizeOf33 rfl rfl rfl) ?_
   refine WL.tm (T.call Try.call75 rfl (narrow75 _ _ s ⟨_, _, rfl, hs2, hs4⟩ _ _ x rfl )) (by decide) fun m31 r32 hle33 hR34 => ?_
   obtain ⟨c35, rfl, hc36⟩ := hR34
   replace hs2 := hs2.mono hle33
   replace hs4 := hs4.mono hle33
   replace hs8 := hs8.mono hle33
   replace hs10 := hs10.mono hle33
   replace hs25 := hs25.mono hle33
   replace hs27 := hs27.mono hle33
   obtain ⟨v37, v39, rfl, hs38, hs40⟩ := hc36
   have hl41 := hs38.le
   have hl42 := hs40.le
   refine WL.mv rfl ?_
   refine WL.y (X.extract rfl rfl) ?_
   refine WL.y (X.extract rfl rfl) ?_
   refine WL.tn (T.alloc Try.zeroValue25 rfl) (by decide) fun b43 => ?_
   refine WL.ts (T.storeBA (k := 0) Try.sizeOf25 rfl rfl rfl (one_cons hs38.one (one_cons hs40.one one_nil)) rfl rfl) ?_
   refine WL.ag rfl ?_
   refine WL.z ?_
   refine WC.r ?_
   refine WL.y (X.loadBA (k := 4) Try.isAgg25 Try.sizeOf25 rfl rfl rfl) ?_
   refine WL.y (X.loadBA (k := 3) Try.isAgg25 Try.sizeOf25 rfl rfl rfl) ?_
   refine WL.tm (T.call Try.call76 rfl (join76 _ _ s ⟨_, _, rfl, hs2, hs4⟩ _ t ⟨_, _, rfl, hs8, hs10⟩ )) (by decide) fun m44 r45 hle46 hR47 => ?_
   obtain ⟨c48, rfl, hc49⟩ := hR47
   replace hs2 := hs2.mono hle46
   replace hs4 := hs4.mono hle46
   replace hs8 := hs8.mono hle46
   replace hs10 := hs10.mono hle46
   replace hs25 := hs25.mono hle46
   replace hs27 := hs27.mono hle46
   replace hs38 := hs38.mono hle46
   replace hs40 := hs40.mono hle46
   obtain ⟨v50, v52, rfl, hs51, hs53⟩ := hc49
   have hl54 := hs51.le
   have hl55 := hs53.le
   refine WL.mv rfl ?_
   refine WL.y (X.extract rfl rfl) ?_
   refine WL.y (X.extract rfl rfl) ?_
   refine WL.tn (T.alloc Try.zeroValue25 rfl) (by decide) fun b56 => ?_
   refine WL.ts (T.storeBA (k := 0) Try.sizeOf25 rfl rfl rfl (one_cons hs51.one (one_cons hs53.one one_nil)) rfl rfl) ?_
   refine WL.ag rfl ?_
   refine WL.z ?_
   refine WC.r ?_
   refine WL.y (X.loadBA (k := 5) Try.isAgg25 Try.sizeOf25 rfl rfl rfl) ?_
   refine WL.y (X.loadBA (k := 4) Try.isAgg25 Try.sizeOf25 rfl rfl rfl) ?_
   refine WL.tm (T.call Try.call77 rfl (join77 _ _ s ⟨_, _, rfl, hs2, hs4⟩ _ t ⟨_, _, rfl, hs8, hs10⟩ )) (by decide) fun m57 r58 hle59 hR60 => ?_
   obtain ⟨c61, rfl, hc62⟩ := hR60
   replace hs2 := hs2.mono hle59
   replace hs4 := hs4.mono hle59
   replace hs8 := hs8.mono hle59
   replace hs10 := hs10.mono hle59
   replace hs25 := hs25.mono hle59
   replace hs27 := hs27.mono hle59
   replace hs38 := hs38.mono hle59
   replace hs40 := hs40.mono hle59
   replace hs51 := hs51.mono hle59
   replace hs53 := hs53.mono hle59
   obtain ⟨v63, v65, rfl, hs64, hs66⟩ := hc62
   have hl67 := hs64.le
   have hl68 := hs66.le
   refine WL.mv rfl ?_
   refine WL.y (X.extract rfl rfl) ?_
   refine WL.y (X.extract rfl rfl) ?_
   refine WL.tn (T.alloc Try.zeroValue25 rfl) (by decide) fun b69 => ?_
   refine WL.ts (T.storeBA (k := 0) Try.sizeOf25 rfl rfl rfl (one_cons hs64.one (one_cons hs66.one one_nil)) rfl rfl) ?_
   refine WL.ag rfl ?_
   refine WL.z ?_
   refine WC.r ?_
   refine WL.y (X.loadBA (k := 6) Try.isAgg25 Try.sizeOf25 rfl rfl rfl) ?_
   refine WL.y (X.loadBA (k := 4) Try.isAgg33 Try.sizeOf33 rfl rfl rfl) ?_
   refine WL.tm (T.call Try.call59 rfl (cut59 _ _ s ⟨_, _, rfl, hs2, hs4⟩ _ x rfl )) (by decide) fun m70 r71 hle72 hR73 => ?_
   obtain ⟨c74, rfl, hc75⟩ := hR73
   replace hs2 := hs2.mono hle72
   replace hs4 := hs4.mono hle72
   replace hs8 := hs8.mono hle72
   replace hs10 := hs10.mono hle72
   replace hs25 := hs25.mono hle72
   replace hs27 := hs27.mono hle72
   replace hs38 := hs38.mono hle72
   replace hs40 := hs40.mono hle72
   replace hs51 := hs51.mono hle72
   replace hs53 := hs53.mono hle72
   replace hs64 := hs64.mono hle72
   replace hs66 := hs66.mono hle72
   obtain ⟨v76, v78, rfl, hs77, hs79⟩ := hc75
   have hl80 := hs77.le
   have hl81 := hs79.le
   refine WL.mv rfl ?_
   refine WL.y (X.extract rfl rfl) ?_
   refine WL.y (X.extract rfl rfl) ?_
   refine WL.tn (T.alloc Try.zeroValue25 rfl) (by decide) fun b82 => ?_
   refine WL.ts (T.storeBA (k := 0) Try.sizeOf25 rfl rfl rfl (one_cons hs77.one (one_cons hs79.one one_nil)) rfl rfl) ?_
   refine WL.ag rfl ?_
   refine WL.z ?_
   refine WC.r ?_
   refine WL.y (X.loadBA (k := 7) Try.isAgg25 Try.sizeOf25 rfl rfl rfl) ?_
   refine WL.y (X.loadBA (k := 5) Try.isAgg33 Try.sizeOf33 rfl rfl rfl) ?_
   refine WL.tm (T.call Try.call78 rfl (cut78 _ _ s ⟨_, _, rfl, hs2, hs4⟩ _ x rfl )) (by decide) fun m83 r84 hle85 hR86 => ?_
   obtain ⟨c87, rfl, hc88⟩ := hR86
   replace hs2 := hs2.mono hle85
   replace hs4 := hs4.mono hle85
   replace hs8 := hs8.mono hle85
   replace hs10 := hs10.mono hle85
   replace hs25 := hs25.mono hle85
   replace hs27 := hs27.mono hle85
   replace hs38 := hs38.mono hle85
   replace hs40 := hs40.mono hle85
   replace hs51 := hs51.mono hle85
   replace hs53 := hs53.mono hle85
   replace hs64 := hs64.mono hle85
   replace hs66 := hs66.mono hle85
   replace hs77 := hs77.mono hle85
   replace hs79 := hs79.mono hle85
   obtain ⟨v89, v91, rfl, hs90, hs92⟩ := hc88
   have hl93 := hs90.le
   have hl94 := hs92.le
   refine WL.mv rfl ?_
   refine WL.y (X.extract rfl rfl) ?_
   refine WL.y (X.extract rfl rfl) ?_
   refine WL.tn (T.alloc Try.zeroValue25 rfl) (by decide) fun b95 => ?_
   refine WL.ts (T.storeBA (k := 0) Try.sizeOf25 rfl rfl rfl (one_cons hs90.one (one_cons hs92.one one_nil)) rfl rfl) ?_
   refine WL.ag rfl ?_
   refine WL.z ?_
   refine WC.r ?_
   refine WL.mv rfl ?_
   refine WL.mv rfl ?_
   refine WL.yes rfl rfl ?_
   refine WL.y (X.loadBA (k := 5) Try.isAgg25 Try.sizeOf25 rfl rfl rfl) ?_
   refine WL.yes rfl rfl ?_
   refine WL.y (X.loadBA (k := 4) Try.isAgg25 Try.sizeOf25 rfl rfl rfl) ?_
   refine WL.yes rfl rfl ?_
   refine WL.y (OpX.t (X.call Try.call56 rfl (sameSeries56 _ _ ((narR s time x).1) ⟨_, _, rfl, hs25, hs27⟩ _ ((narR s time x).1) ⟨_, _, rfl, hs38, hs40⟩ )) rfl) ?_
   refine WL.y (X.pickT rfl rfl rfl) ?_
   refine WL.mv rfl ?_
   refine WL.yes rfl rfl ?_
   refine WL.mv rfl ?_
   refine WL.yes rfl rfl ?_
   refine WL.mv rfl ?_
   refine WL.yes rfl rfl ?_
   refine WL.y (OpX.t (X.eql rfl rfl) rfl) ?_
   refine WL.y (X.pickT rfl rfl rfl) ?_
   refine WL.mv rfl ?_
   refine WL.yes rfl rfl ?_
   refine WL.y (X.loadBA (k := 3) Try.isAgg25 Try.sizeOf25 rfl rfl rfl) ?_
   refine WL.yes rfl rfl ?_
   refine WL.y (X.loadBA (k := 2) Try.isAgg25 Try.sizeOf25 rfl rfl rfl) ?_
   refine WL.yes rfl rfl ?_
   refine WL.y (OpX.t (X.call Try.call56 rfl (sameSeries56 _ _ ((joinR s t).1) ⟨_, _, rfl, hs51, hs53⟩ _ ((joinR s t).1) ⟨_, _, rfl, hs64, hs66⟩ )) rfl) ?_
   refine WL.y (X.pickT rfl rfl rfl) ?_
   refine WL.mv rfl ?_
   refine WL.yes rfl rfl ?_
   refine WL.mv rfl ?_
   refine WL.yes rfl rfl ?_
   refine WL.mv rfl ?_
   refine WL.yes rfl rfl ?_
   refine WL.y (OpX.t (X.eql rfl rfl) rfl) ?_
   refine WL.y (X.pickT rfl rfl rfl) ?_
   refine WL.mv rfl ?_
   refine WL.yes rfl rfl ?_
   refine WL.y (X.loadBA (k := 1) Try.isAgg25 Try.sizeOf25 rfl rfl rfl) ?_
   refine WL.yes rfl rfl ?_
   refine WL.y (X.loadBA (k := 0) Try.isAgg25 Try.sizeOf25 rfl rfl rfl) ?_
   refine WL.yes rfl rfl ?_
   refine WL.y (OpX.t (X.call Try.call56 rfl (sameSeries56 _ _ ((cutR s x).1) ⟨_, _, rfl, hs77, hs79⟩ _ ((cutR s x).1) ⟨_, _, rfl, hs90, hs92⟩ )) rfl) ?_
   refine WL.y (X.pickT rfl rfl rfl) ?_
   refine WL.mv rfl ?_
   refine WL.yes rfl rfl ?_
   refine WL.mv rfl ?_
   refine WL.yes rfl rfl ?_
   refine WL.mv rfl ?_
   refine WL.yes rfl rfl ?_
   refine WL.y (OpX.t (X.eql rfl rfl) rfl) ?_
   refine WL.y (X.pickT rfl rfl rfl) ?_
   refine WL.ag rfl ?_
   refine WL.z ?_
   refine WC.ret ?_
   refine WK.ret1 rfl rfl (fun w' hw' => Ret.exact hw' ?_)
   first | rfl | (exfalso; omega) | (exfalso; contradiction) | exact (bool_true rfl).symm | exact (bool_true (by omega)).symm | (simp; done)
  ·refine WL.yes rfl rfl ?_
   refine WL.y (X.not rfl) ?_
   refine WL.y (X.pickF rfl rfl rfl) ?_
   refine WL.z ?_
   refine WC.condT rfl ?_
   refine WC.r ?_
   refine WL.mv rfl ?_
   refine WL.ag rfl ?_
   refine WL.z ?_
   refine WC.ret ?_
   refine WK.rThen ?_
   refine WK.ret1 rfl rfl (fun w' hw' => Ret.exact hw' ?_)
   first | rfl | (exfalso; omega) | (exfalso; contradiction) | exact (bool_true rfl).symm | exact (bool_true (by omega)).symm | (simp; done)
 ·refine WL.y (X.not rfl) ?_
  refine WL.mv rfl ?_
  refine WL.no rfl rfl rfl (by decide) ?_
  refine WL.no rfl rfl rfl (by decide) ?_
  refine WL.no rfl rfl rfl (by decide) ?_
  refine WL.y (X.pickT rfl rfl rfl) ?_
  refine WL.z ?_
  refine WC.condT rfl ?_
  refine WC.r ?_
  refine WL.mv rfl ?_
  refine WL.ag rfl ?_
  refine WL.z ?_
  refine WC.ret ?_
  refine WK.rThen ?_
  refine WK.ret1 rfl rfl (fun w' hw' => Ret.exact hw' ?_)
  first | rfl | (exfalso; omega) | (exfalso; contradiction) | exact (bool_true rfl).symm | exact (bool_true (by omega)).symm | (simp; done)
end Go.Proofs.C8
