import Derived.Test.YtednficclnjmjaaC8Spec4
import Derived.Test.YtednficclnjmjaaC8W7
/- Century: walks, eighth part, by program. -/
namespace Go.Proofs.C8
open Go Go.Kx
set_option linter.unusedSimpArgs false

theorem sample79o (m : Mem)  : Mut Try.prog 79 #[] m [] (fun _ Es u => ∃ v1 v2, u = .agg [v1, v2].toArray ∧ Es = [rowF v2 72 sampleS.Shifts, rowF v1 62 wideS.Values] ∧ v1.oneCell' = true ∧ v2.oneCell' = true) := by
 refine Mut.start Try.func79 rfl Try.ntmps79 rfl fun wld => ?_
 refine WC.seq ?_
 refine WC.region ?_
 refine WL.tn (T.alloc Try.zeroValue25 rfl) (by decide) fun b1 => ?_
 refine WL.nil ?_
 refine WK.nThen ?_
 refine WC.seq ?_
 refine WC.region ?_
 refine WL.x (V := Value.agg [.int .i64 (100), .int .i64 (102)].toArray) (X.build Try.zeroValue33 Try.runUnderlying33 (places33 _ Try.underlying33) rfl rfl) (by decide) ?_
 refine WL.x (V := Value.agg [.int .i64 (0), .int .i64 (100), .int .i64 (102)].toArray) (X.build Try.zeroValue62 Try.runUnderlying62 (places62 _ Try.underlying62) rfl rfl) (by decide) ?_
 refine WL.x (V := Value.agg [.int .i64 (101), .int .i64 (101)].toArray) (X.build Try.zeroValue33 Try.runUnderlying33 (places33 _ Try.underlying33) rfl rfl) (by decide) ?_
 refine WL.x (V := Value.agg [.int .i64 (1), .int .i64 (101), .int .i64 (101)].toArray) (X.build Try.zeroValue62 Try.runUnderlying62 (places62 _ Try.underlying62) rfl rfl) (by decide) ?_
 refine WL.x (V := Value.agg [.int .i64 (90), .int .i64 (95)].toArray) (X.build Try.zeroValue33 Try.runUnderlying33 (places33 _ Try.underlying33) rfl rfl) (by decide) ?_
 refine WL.x (V := Value.agg [.int .i64 (3), .int .i64 (90), .int .i64 (95)].toArray) (X.build Try.zeroValue62 Try.runUnderlying62 (places62 _ Try.underlying62) rfl rfl) (by decide) ?_
 refine WL.ta (T.litF (vals := [.agg [.int .i64 (0), .int .i64 (100), .int .i64 (102)].toArray, .agg [.int .i64 (1), .int .i64 (101), .int .i64 (101)].toArray, .agg [.int .i64 (3), .int .i64 (90), .int .i64 (95)].toArray]) (L := [(Val.mk (0) ((Span.mk (100) (102)))), (Val.mk (1) ((Span.mk (101) (101)))), (Val.mk (3) ((Span.mk (90) (95))))]) sl22 rfl rfl (by intro v hv; simp at hv; rcases hv with rfl | rfl | rfl <;> rfl) rfl rfl rfl) (by decide) (fun v2 => ?_)
 refine WL.x (V := Value.agg [.int .i64 (-5), .int .i64 (0)].toArray) (X.build Try.zeroValue33 Try.runUnderlying33 (places33 _ Try.underlying33) rfl rfl) (by decide) ?_
 refine WL.x (V := Value.agg [.int .i64 (2), .int .i64 (-5), .int .i64 (0)].toArray) (X.build Try.zeroValue72 Try.runUnderlying72 (places72 _ Try.underlying72) rfl rfl) (by decide) ?_
 refine WL.ta (T.litF (vals := [.agg [.int .i64 (2), .int .i64 (-5), .int .i64 (0)].toArray]) (L := [(Shf.mk (2) ((Span.mk (-5) (0))))]) sl23 rfl rfl (by intro v hv; simp at hv; subst hv; rfl) rfl rfl rfl) (by decide) (fun v3 => ?_)
 refine WL.own1 (k := 1) rfl (fun ho4 => ?_)
 refine WL.own1 (k := 0) rfl (fun ho5 => ?_)
 refine WL.x (V := Value.agg [v2, v3].toArray) (X.build Try.zeroValue25 Try.runUnderlying25 (places25 _ Try.underlying25) rfl (by simp only [Instr.fill, one_cells ho4, one_cells ho5]; rfl)) (by decide) ?_
 refine WL.ts (T.storeBA (k := 2) Try.sizeOf25 rfl rfl rfl (one_cons ho4 (one_cons ho5 one_nil)) rfl rfl) ?_
 refine WL.nil ?_
 refine WK.nThen ?_
 refine WC.ret ?_
 refine WK.retC1 2 rfl rfl rfl Try.isAgg25 Try.sizeOf25 (fun w' hw' => Ret.mut (hw'.weaken (.cons_cons _ (.cons_cons _ (.cons _ .slnil)))) ?_)
 exact ⟨_, _, rfl, rfl, ho4, ho5⟩

theorem awake21 (m : Mem)    : Exact Try.prog 21 #[] m (.bool true) := by
 have hws : sampleS.Shifts.length = 1 := rfl
 refine Exact.start Try.func21 rfl Try.ntmps21 rfl fun wld => ?_
 refine WC.seq ?_
 refine WC.region ?_
 refine WL.x (X.assign rfl) (by decide) ?_
 refine WL.nil ?_
 refine WK.nThen ?_
 refine WC.seq ?_
 refine WC.region ?_
 refine WL.tm (T.call Try.call79 rfl (sample79 _  )) (by decide) fun m1 r2 hle3 hR4 => ?_
 obtain ⟨c5, rfl, hc6⟩ := hR4
 obtain ⟨v7, v9, rfl, hs8, hs10⟩ := hc6
 have hl11 := hs8.le
 have hl12 := hs10.le
 refine WL.tm (T.litM (α := Int) (vals := [.int .i64 (100), .int .i64 (101), .int .i64 (90)]) (L := [100, 101, 90]) sl28 rfl (.cons rfl rfl (.cons rfl rfl (.cons rfl rfl .nil))) rfl rfl) (by decide) (fun m13 v14 hle15 hs16 => ?_)
 replace hs8 := hs8.mono hle15
 replace hs10 := hs10.mono hle15
 refine WL.tm (T.litM (α := Int) (vals := [.int .i64 (-5)]) (L := [-5]) sl28 rfl (.cons rfl rfl .nil) rfl rfl) (by decide) (fun m17 v18 hle19 hs20 => ?_)
 replace hs8 := hs8.mono hle19
 replace hs10 := hs10.mono hle19
 replace hs16 := hs16.mono hle19
 refine WL.tm (T.call Try.call39 rfl (even39 _ _ sampleS ⟨_, _, rfl, hs8, hs10⟩ _ _ hs16 _ _ hs20 )) (by decide) fun m21 r22 hle23 hR24 => ?_
 obtain ⟨v25, rfl, hs26⟩ := hR24
 replace hs8 := hs8.mono hle23
 replace hs10 := hs10.mono hle23
 replace hs16 := hs16.mono hle23
 replace hs20 := hs20.mono hle23
 have hl27 := hs26.le
 refine WL.x (X.move rfl) (by decide) ?_
 refine WL.x (X.extract rfl rfl) (by decide) ?_
 refine WL.x (X.extract rfl rfl) (by decide) ?_
 refine WL.x (X.assign rfl) (by decide) ?_
 refine WL.x (X.assign rfl) (by decide) ?_
 refine WL.nil ?_
 refine WK.nThen ?_
 refine WC.seq ?_
 rw [aw_even2]
 rw [aw_even1] at hs26
 refine WC.region ?_
 refine WL.tm (T.call Try.call79 rfl (sample79 _  )) (by decide) fun m28 r29 hle30 hR31 => ?_
 obtain ⟨c32, rfl, hc33⟩ := hR31
 replace hs8 := hs8.mono hle30
 replace hs10 := hs10.mono hle30
 replace hs16 := hs16.mono hle30
 replace hs20 := hs20.mono hle30
 replace hs26 := hs26.mono hle30
 obtain ⟨v34, v36, rfl, hs35, hs37⟩ := hc33
 have hl38 := hs35.le
 have hl39 := hs37.le
 refine WL.x (V := Value.agg [.int .i64 (0), .int .i64 (3)].toArray) (X.build Try.zeroValue33 Try.runUnderlying33 (places33 _ Try.underlying33) rfl rfl) (by decide) ?_
 refine WL.x (X.call Try.call37 rfl (extremes37 _ _ sampleS ⟨_, _, rfl, hs35, hs37⟩ _ ((Span.mk (0) (3))) rfl )) (by decide) ?_
 refine WL.x (X.move rfl) (by decide) ?_
 refine WL.x (X.extract rfl rfl) (by decide) ?_
 refine WL.x (X.extract rfl rfl) (by decide) ?_
 refine WL.x (X.extract rfl rfl) (by decide) ?_
 refine WL.tn (T.alloc Try.zeroValue33 rfl) (by decide) fun b40 => ?_
 refine WL.tn (T.alloc Try.zeroValue33 rfl) (by decide) fun b41 => ?_
 refine WL.ts (T.storeBA (k := 1) Try.sizeOf33 rfl rfl rfl (one_cons rfl (one_cons rfl one_nil)) rfl rfl) ?_
 refine WL.ts (T.storeBA (k := 0) Try.sizeOf33 rfl rfl rfl (one_cons rfl (one_cons rfl one_nil)) rfl rfl) ?_
 refine WL.x (X.assign rfl) (by decide) ?_
 refine WL.nil ?_
 refine WK.nThen ?_
 refine WC.seq ?_
 rw [aw_ext5]
 rw [aw_ext3]
 rw [aw_ext4]
 rw [aw_ext1]
 rw [aw_ext2]
 refine WC.region ?_
 refine WL.tm (T.call Try.call79 rfl (sample79 _  )) (by decide) fun m42 r43 hle44 hR45 => ?_
 obtain ⟨c46, rfl, hc47⟩ := hR45
 replace hs8 := hs8.mono hle44
 replace hs10 := hs10.mono hle44
 replace hs16 := hs16.mono hle44
 replace hs20 := hs20.mono hle44
 replace hs26 := hs26.mono hle44
 replace hs35 := hs35.mono hle44
 replace hs37 := hs37.mono hle44
 obtain ⟨v48, v50, rfl, hs49, hs51⟩ := hc47
 have hl52 := hs49.le
 have hl53 := hs51.le
 refine WL.x (X.call Try.call43 rfl (rank43 _ _ sampleS ⟨_, _, rfl, hs49, hs51⟩ _ )) (by decide) ?_
 refine WL.x (X.move rfl) (by decide) ?_
 refine WL.x (X.extract rfl rfl) (by decide) ?_
 refine WL.x (X.extract rfl rfl) (by decide) ?_
 refine WL.tn (T.alloc Try.zeroValue33 rfl) (by decide) fun b54 => ?_
 refine WL.ts (T.storeBA (k := 0) Try.sizeOf33 rfl rfl rfl (one_cons rfl (one_cons rfl one_nil)) rfl rfl) ?_
 refine WL.x (X.assign rfl) (by decide) ?_
 refine WL.nil ?_
 refine WK.nThen ?_
 refine WC.seq ?_
 rw [aw_rank1]
 rw [aw_rank2]
 rw [aw_rank3]
 refine WC.region ?_
 refine WL.tm (T.call Try.call79 rfl (sample79 _  )) (by decide) fun m55 r56 hle57 hR58 => ?_
 obtain ⟨c59, rfl, hc60⟩ := hR58
 replace hs8 := hs8.mono hle57
 replace hs10 := hs10.mono hle57
 replace hs16 := hs16.mono hle57
 replace hs20 := hs20.mono hle57
 replace hs26 := hs26.mono hle57
 replace hs35 := hs35.mono hle57
 replace hs37 := hs37.mono hle57
 replace hs49 := hs49.mono hle57
 replace hs51 := hs51.mono hle57
 obtain ⟨v61, v63, rfl, hs62, hs64⟩ := hc60
 have hl65 := hs62.le
 have hl66 := hs64.le
 refine WL.x (X.call Try.call36 rfl (slope36 _ _ sampleS ⟨_, _, rfl, hs62, hs64⟩ )) (by decide) ?_
 refine WL.x (X.move rfl) (by decide) ?_
 refine WL.x (X.extract rfl rfl) (by decide) ?_
 refine WL.x (X.extract rfl rfl) (by decide) ?_
 refine WL.x (X.extract rfl rfl) (by decide) ?_
 refine WL.tn (T.alloc Try.zeroValue45 rfl) (by decide) fun b67 => ?_
 refine WL.tn (T.alloc Try.zeroValue45 rfl) (by decide) fun b68 => ?_
 refine WL.ts (T.storeBA (k := 1) Try.sizeOf45 rfl rfl rfl (one_cons rfl (one_cons rfl one_nil)) rfl rfl) ?_
 refine WL.ts (T.storeBA (k := 0) Try.sizeOf45 rfl rfl rfl (one_cons rfl (one_cons rfl one_nil)) rfl rfl) ?_
 refine WL.x (X.assign rfl) (by decide) ?_
 refine WL.nil ?_
 refine WK.nThen ?_
 refine WC.seq ?_
 rw [aw_slope5]
 rw [aw_slope3]
 rw [aw_slope4]
 rw [aw_slope1]
 rw [aw_slope2]
 refine WC.region ?_
 refine WL.tm (T.call Try.call79 rfl (sample79 _  )) (by decide) fun m69 r70 hle71 hR72 => ?_
 obtain ⟨c73, rfl, hc74⟩ := hR72
 replace hs8 := hs8.mono hle71
 replace hs10 := hs10.mono hle71
 replace hs16 := hs16.mono hle71
 replace hs20 := hs20.mono hle71
 replace hs26 := hs26.mono hle71
 replace hs35 := hs35.mono hle71
 replace hs37 := hs37.mono hle71
 replace hs49 := hs49.mono hle71
 replace hs51 := hs51.mono hle71
 replace hs62 := hs62.mono hle71
 replace hs64 := hs64.mono hle71
 obtain ⟨v75, v77, rfl, hs76, hs78⟩ := hc74
 have hl79 := hs76.le
 have hl80 := hs78.le
 refine WL.tm (T.call Try.call80 rfl (level80 _  )) (by decide) fun m81 r82 hle83 hR84 => ?_
 obtain ⟨c85, rfl, hc86⟩ := hR84
 replace hs8 := hs8.mono hle83
 replace hs10 := hs10.mono hle83
 replace hs16 := hs16.mono hle83
 replace hs20 := hs20.mono hle83
 replace hs26 := hs26.mono hle83
 replace hs35 := hs35.mono hle83
 replace hs37 := hs37.mono hle83
 replace hs49 := hs49.mono hle83
 replace hs51 := hs51.mono hle83
 replace hs62 := hs62.mono hle83
 replace hs64 := hs64.mono hle83
 replace hs76 := hs76.mono hle83
 replace hs78 := hs78.mono hle83
 obtain ⟨v87, v89, rfl, hs88, hs90⟩ := hc86
 have hl91 := hs88.le
 have hl92 := hs90.le
 refine WL.tm (T.call Try.call23 rfl (break23 _ _ sampleS ⟨_, _, rfl, hs76, hs78⟩ _ levelS ⟨_, _, rfl, hs88, hs90⟩ _ )) (by decide) fun m93 r94 hle95 hR96 => ?_
 obtain ⟨v97, rfl, hs98⟩ := hR96
 replace hs8 := hs8.mono hle95
 replace hs10 := hs10.mono hle95
 replace hs16 := hs16.mono hle95
 replace hs20 := hs20.mono hle95
 replace hs26 := hs26.mono hle95
 replace hs35 := hs35.mono hle95
 replace hs37 := hs37.mono hle95
 replace hs49 := hs49.mono hle95
 replace hs51 := hs51.mono hle95
 replace hs62 := hs62.mono hle95
 replace hs64 := hs64.mono hle95
 replace hs76 := hs76.mono hle95
 replace hs78 := hs78.mono hle95
 replace hs88 := hs88.mono hle95
 replace hs90 := hs90.mono hle95
 have hl99 := hs98.le
 refine WL.x (X.move rfl) (by decide) ?_
 refine WL.x (X.extract rfl rfl) (by decide) ?_
 refine WL.x (X.extract rfl rfl) (by decide) ?_
 refine WL.x (X.assign rfl) (by decide) ?_
 refine WL.x (X.assign rfl) (by decide) ?_
 refine WL.nil ?_
 refine WK.nThen ?_
 refine WC.seq ?_
 rw [aw_brk2]
 rw [aw_brk1] at hs98
 refine WC.region ?_
 refine WL.tm (T.call Try.call79 rfl (sample79 _  )) (by decide) fun m100 r101 hle102 hR103 => ?_
 obtain ⟨c104, rfl, hc105⟩ := hR103
 replace hs8 := hs8.mono hle102
 replace hs10 := hs10.mono hle102
 replace hs16 := hs16.mono hle102
 replace hs20 := hs20.mono hle102
 replace hs26 := hs26.mono hle102
 replace hs35 := hs35.mono hle102
 replace hs37 := hs37.mono hle102
 replace hs49 := hs49.mono hle102
 replace hs51 := hs51.mono hle102
 replace hs62 := hs62.mono hle102
 replace hs64 := hs64.mono hle102
 replace hs76 := hs76.mono hle102
 replace hs78 := hs78.mono hle102
 replace hs88 := hs88.mono hle102
 replace hs90 := hs90.mono hle102
 replace hs98 := hs98.mono hle102
 obtain ⟨v106, v108, rfl, hs107, hs109⟩ := hc105
 have hl110 := hs107.le
 have hl111 := hs109.le
 refine WL.tm (T.call Try.call80 rfl (level80 _  )) (by decide) fun m112 r113 hle114 hR115 => ?_
 obtain ⟨c116, rfl, hc117⟩ := hR115
 replace hs8 := hs8.mono hle114
 replace hs10 := hs10.mono hle114
 replace hs16 := hs16.mono hle114
 replace hs20 := hs20.mono hle114
 replace hs26 := hs26.mono hle114
 replace hs35 := hs35.mono hle114
 replace hs37 := hs37.mono hle114
 replace hs49 := hs49.mono hle114
 replace hs51 := hs51.mono hle114
 replace hs62 := hs62.mono hle114
 replace hs64 := hs64.mono hle114
 replace hs76 := hs76.mono hle114
 replace hs78 := hs78.mono hle114
 replace hs88 := hs88.mono hle114
 replace hs90 := hs90.mono hle114
 replace hs98 := hs98.mono hle114
 replace hs107 := hs107.mono hle114
 replace hs109 := hs109.mono hle114
 obtain ⟨v118, v120, rfl, hs119, hs121⟩ := hc117
 have hl122 := hs119.le
 have hl123 := hs121.le
 refine WL.x (X.call Try.call25 rfl (adjust25 _ _ sampleS ⟨_, _, rfl, hs107, hs109⟩ _ levelS ⟨_, _, rfl, hs119, hs121⟩ _ _ )) (by decide) ?_
 refine WL.x (X.move rfl) (by decide) ?_
 refine WL.x (X.extract rfl rfl) (by decide) ?_
 refine WL.x (X.extract rfl rfl) (by decide) ?_
 refine WL.tn (T.alloc Try.zeroValue33 rfl) (by decide) fun b124 => ?_
 refine WL.ts (T.storeBA (k := 0) Try.sizeOf33 rfl rfl rfl (one_cons rfl (one_cons rfl one_nil)) rfl rfl) ?_
 refine WL.x (X.assign rfl) (by decide) ?_
 refine WL.nil ?_
 refine WK.nThen ?_
 refine WC.seq ?_
 rw [aw_adj1]
 rw [aw_adj2]
 rw [aw_adj3]
 refine WC.region ?_
 refine WL.tm (T.call Try.call79 rfl (sample79 _  )) (by decide) fun m125 r126 hle127 hR128 => ?_
 obtain ⟨c129, rfl, hc130⟩ := hR128
 replace hs8 := hs8.mono hle127
 replace hs10 := hs10.mono hle127
 replace hs16 := hs16.mono hle127
 replace hs20 := hs20.mono hle127
 replace hs26 := hs26.mono hle127
 replace hs35 := hs35.mono hle127
 replace hs37 := hs37.mono hle127
 replace hs49 := hs49.mono hle127
 replace hs51 := hs51.mono hle127
 replace hs62 := hs62.mono hle127
 replace hs64 := hs64.mono hle127
 replace hs76 := hs76.mono hle127
 replace hs78 := hs78.mono hle127
 replace hs88 := hs88.mono hle127
 replace hs90 := hs90.mono hle127
 replace hs98 := hs98.mono hle127
 replace hs107 := hs107.mono hle127
 replace hs109 := hs109.mono hle127
 replace hs119 := hs119.mono hle127
 replace hs121 := hs121.mono hle127
 obtain ⟨v131, v133, rfl, hs132, hs134⟩ := hc130
 have hl135 := hs132.le
 have hl136 := hs134.le
 refine WL.tm (T.call Try.call28 rfl (steps28 _ _ sampleS ⟨_, _, rfl, hs132, hs134⟩ _ )) (by decide) fun m137 r138 hle139 hR140 => ?_
 obtain ⟨v141, rfl, hs142⟩ := hR140
 replace hs8 := hs8.mono hle139
 replace hs10 := hs10.mono hle139
 replace hs16 := hs16.mono hle139
 replace hs20 := hs20.mono hle139
 replace hs26 := hs26.mono hle139
 replace hs35 := hs35.mono hle139
 replace hs37 := hs37.mono hle139
 replace hs49 := hs49.mono hle139
 replace hs51 := hs51.mono hle139
 replace hs62 := hs62.mono hle139
 replace hs64 := hs64.mono hle139
 replace hs76 := hs76.mono hle139
 replace hs78 := hs78.mono hle139
 replace hs88 := hs88.mono hle139
 replace hs90 := hs90.mono hle139
 replace hs98 := hs98.mono hle139
 replace hs107 := hs107.mono hle139
 replace hs109 := hs109.mono hle139
 replace hs119 := hs119.mono hle139
 replace hs121 := hs121.mono hle139
 replace hs132 := hs132.mono hle139
 replace hs134 := hs134.mono hle139
 have hl143 := hs142.le
 refine WL.x (X.move rfl) (by decide) ?_
 refine WL.x (X.extract rfl rfl) (by decide) ?_
 refine WL.x (X.extract rfl rfl) (by decide) ?_
 refine WL.x (X.extract rfl rfl) (by decide) ?_
 refine WL.x (X.assign rfl) (by decide) ?_
 refine WL.x (X.assign rfl) (by decide) ?_
 refine WL.x (X.assign rfl) (by decide) ?_
 refine WL.nil ?_
 refine WK.nThen ?_
 refine WC.seq ?_
 rw [aw_stp3]
 rw [aw_stp2]
 rw [aw_stp1] at hs142
 refine WC.region ?_
 refine WL.tm (T.call Try.call79 rfl (sample79 _  )) (by decide) fun m144 r145 hle146 hR147 => ?_
 obtain ⟨c148, rfl, hc149⟩ := hR147
 replace hs8 := hs8.mono hle146
 replace hs10 := hs10.mono hle146
 replace hs16 := hs16.mono hle146
 replace hs20 := hs20.mono hle146
 replace hs26 := hs26.mono hle146
 replace hs35 := hs35.mono hle146
 replace hs37 := hs37.mono hle146
 replace hs49 := hs49.mono hle146
 replace hs51 := hs51.mono hle146
 replace hs62 := hs62.mono hle146
 replace hs64 := hs64.mono hle146
 replace hs76 := hs76.mono hle146
 replace hs78 := hs78.mono hle146
 replace hs88 := hs88.mono hle146
 replace hs90 := hs90.mono hle146
 replace hs98 := hs98.mono hle146
 replace hs107 := hs107.mono hle146
 replace hs109 := hs109.mono hle146
 replace hs119 := hs119.mono hle146
 replace hs121 := hs121.mono hle146
 replace hs132 := hs132.mono hle146
 replace hs134 := hs134.mono hle146
 replace hs142 := hs142.mono hle146
 obtain ⟨v150, v152, rfl, hs151, hs153⟩ := hc149
 have hl154 := hs151.le
 have hl155 := hs153.le
 refine WL.tm (T.call Try.call32 rfl (falls32 _ _ sampleS ⟨_, _, rfl, hs151, hs153⟩ )) (by decide) fun m156 r157 hle158 hR159 => ?_
 obtain ⟨v160, rfl, hs161⟩ := hR159
 replace hs8 := hs8.mono hle158
 replace hs10 := hs10.mono hle158
 replace hs16 := hs16.mono hle158
 replace hs20 := hs20.mono hle158
 replace hs26 := hs26.mono hle158
 replace hs35 := hs35.mono hle158
 replace hs37 := hs37.mono hle158
 replace hs49 := hs49.mono hle158
 replace hs51 := hs51.mono hle158
 replace hs62 := hs62.mono hle158
 replace hs64 := hs64.mono hle158
 replace hs76 := hs76.mono hle158
 replace hs78 := hs78.mono hle158
 replace hs88 := hs88.mono hle158
 replace hs90 := hs90.mono hle158
 replace hs98 := hs98.mono hle158
 replace hs107 := hs107.mono hle158
 replace hs109 := hs109.mono hle158
 replace hs119 := hs119.mono hle158
 replace hs121 := hs121.mono hle158
 replace hs132 := hs132.mono hle158
 replace hs134 := hs134.mono hle158
 replace hs142 := hs142.mono hle158
 replace hs151 := hs151.mono hle158
 replace hs153 := hs153.mono hle158
 have hl162 := hs161.le
 refine WL.x (X.move rfl) (by decide) ?_
 refine WL.x (X.extract rfl rfl) (by decide) ?_
 refine WL.x (X.extract rfl rfl) (by decide) ?_
 refine WL.x (X.assign rfl) (by decide) ?_
 refine WL.x (X.assign rfl) (by decide) ?_
 refine WL.nil ?_
 refine WK.nThen ?_
 refine WC.seq ?_
 rw [aw_fall2]
 rw [aw_fall1] at hs161
 refine WC.region ?_
 refine WL.tm (T.call Try.call79 rfl (sample79 _  )) (by decide) fun m163 r164 hle165 hR166 => ?_
 obtain ⟨c167, rfl, hc168⟩ := hR166
 replace hs8 := hs8.mono hle165
 replace hs10 := hs10.mono hle165
 replace hs16 := hs16.mono hle165
 replace hs20 := hs20.mono hle165
 replace hs26 := hs26.mono hle165
 replace hs35 := hs35.mono hle165
 replace hs37 := hs37.mono hle165
 replace hs49 := hs49.mono hle165
 replace hs51 := hs51.mono hle165
 replace hs62 := hs62.mono hle165
 replace hs64 := hs64.mono hle165
 replace hs76 := hs76.mono hle165
 replace hs78 := hs78.mono hle165
 replace hs88 := hs88.mono hle165
 replace hs90 := hs90.mono hle165
 replace hs98 := hs98.mono hle165
 replace hs107 := hs107.mono hle165
 replace hs109 := hs109.mono hle165
 replace hs119 := hs119.mono hle165
 replace hs121 := hs121.mono hle165
 replace hs132 := hs132.mono hle165
 replace hs134 := hs134.mono hle165
 replace hs142 := hs142.mono hle165
 replace hs151 := hs151.mono hle165
 replace hs153 := hs153.mono hle165
 replace hs161 := hs161.mono hle165
 obtain ⟨v169, v171, rfl, hs170, hs172⟩ := hc168
 have hl173 := hs170.le
 have hl174 := hs172.le
 refine WL.tm (T.call Try.call30 rfl (mono30 _ _ sampleS ⟨_, _, rfl, hs170, hs172⟩ )) (by decide) fun m175 r176 hle177 hR178 => ?_
 obtain ⟨v179, rfl, hs180⟩ := hR178
 replace hs8 := hs8.mono hle177
 replace hs10 := hs10.mono hle177
 replace hs16 := hs16.mono hle177
 replace hs20 := hs20.mono hle177
 replace hs26 := hs26.mono hle177
 replace hs35 := hs35.mono hle177
 replace hs37 := hs37.mono hle177
 replace hs49 := hs49.mono hle177
 replace hs51 := hs51.mono hle177
 replace hs62 := hs62.mono hle177
 replace hs64 := hs64.mono hle177
 replace hs76 := hs76.mono hle177
 replace hs78 := hs78.mono hle177
 replace hs88 := hs88.mono hle177
 replace hs90 := hs90.mono hle177
 replace hs98 := hs98.mono hle177
 replace hs107 := hs107.mono hle177
 replace hs109 := hs109.mono hle177
 replace hs119 := hs119.mono hle177
 replace hs121 := hs121.mono hle177
 replace hs132 := hs132.mono hle177
 replace hs134 := hs134.mono hle177
 replace hs142 := hs142.mono hle177
 replace hs151 := hs151.mono hle177
 replace hs153 := hs153.mono hle177
 replace hs161 := hs161.mono hle177
 replace hs170 := hs170.mono hle177
 replace hs172 := hs172.mono hle177
 have hl181 := hs180.le
 refine WL.x (X.move rfl) (by decide) ?_
 refine WL.x (X.extract rfl rfl) (by decide) ?_
 refine WL.x (X.extract rfl rfl) (by decide) ?_
 refine WL.x (X.assign rfl) (by decide) ?_
 refine WL.x (X.assign rfl) (by decide) ?_
 refine WL.nil ?_
 refine WK.nThen ?_
 refine WC.seq ?_
 rw [aw_mono2]
 rw [aw_mono1] at hs180
 refine WC.region ?_
 refine WL.tM (T.callO Try.call79 rfl (sample79o _)) (by decide) (fun m182 Es_ u_ hle185 hR_ => ?_)
 obtain ⟨v183, v184, rfl, rfl, ho186, ho187⟩ := hR_
 replace hs8 := hs8.mono hle185
 replace hs10 := hs10.mono hle185
 replace hs16 := hs16.mono hle185
 replace hs20 := hs20.mono hle185
 replace hs26 := hs26.mono hle185
 replace hs35 := hs35.mono hle185
 replace hs37 := hs37.mono hle185
 replace hs49 := hs49.mono hle185
 replace hs51 := hs51.mono hle185
 replace hs62 := hs62.mono hle185
 replace hs64 := hs64.mono hle185
 replace hs76 := hs76.mono hle185
 replace hs78 := hs78.mono hle185
 replace hs88 := hs88.mono hle185
 replace hs90 := hs90.mono hle185
 replace hs98 := hs98.mono hle185
 replace hs107 := hs107.mono hle185
 replace hs109 := hs109.mono hle185
 replace hs119 := hs119.mono hle185
 replace hs121 := hs121.mono hle185
 replace hs132 := hs132.mono hle185
 replace hs134 := hs134.mono hle185
 replace hs142 := hs142.mono hle185
 replace hs151 := hs151.mono hle185
 replace hs153 := hs153.mono hle185
 replace hs161 := hs161.mono hle185
 replace hs170 := hs170.mono hle185
 replace hs172 := hs172.mono hle185
 replace hs180 := hs180.mono hle185
 refine WL.tn (T.alloc Try.zeroValue25 rfl) (by decide) fun b188 => ?_
 refine WL.ts (T.storeBA (k := 0) Try.sizeOf25 rfl rfl rfl (one_cons ho186 (one_cons ho187 one_nil)) rfl rfl) ?_
 refine WL.nil ?_
 refine WK.nThen ?_
 refine WC.seq ?_
 refine WC.region ?_
 refine WL.x (X.field Try.runUnderlying25 rfl Try.sizeOf23 rfl) (by decide) ?_
 refine WL.x (X.loadB (k := 0) Try.isAgg23 rfl rfl rfl) (by decide) ?_
 refine WL.x (X.idxRowE (k := 1) 0 Try.runUnderlying23 Try.sizeOf72 rfl rfl rfl (by omega) (by first | omega | (simp; omega) | simp)) (by decide) ?_
 refine WL.x (X.field Try.runUnderlying72 rfl Try.sizeOf33 rfl) (by decide) ?_
 refine WL.x (X.field Try.runUnderlying33 rfl Try.sizeOf3 rfl) (by decide) ?_
 refine WL.ts (T.storeFp (k := 1) (i := 0) (off := 1) (us := [.int .i64 (-6)]) ((Shf.mk (((gt sampleS.Shifts 0)).Time) ((Span.mk (-6) ((((gt sampleS.Shifts 0)).Levels).Hi))))) Try.sizeOf3 rfl rfl rfl rfl (Nat.zero_lt_succ _) rfl (by first | omega | (simp; omega) | simp) rfl rfl (one_cons rfl one_nil)) ?_
 refine WL.nil ?_
 refine WK.nThen ?_
 refine WC.seq ?_
 have he189 : (sampleS.Shifts.set 0 ((Shf.mk (((gt sampleS.Shifts 0)).Time) ((Span.mk (-6) ((((gt sampleS.Shifts 0)).Levels).Hi)))))) = wideS.Shifts := rfl
 rw [he189]
 refine WC.region ?_
 refine WL.x (X.loadBA (k := 0) Try.isAgg25 Try.sizeOf25 rfl rfl rfl) (by decide) ?_
 refine WL.freezeF 2 rfl rfl (by decide) (fun m190 hle191 hs192 => ?_)
 replace hs8 := hs8.mono hle191
 replace hs10 := hs10.mono hle191
 replace hs16 := hs16.mono hle191
 replace hs20 := hs20.mono hle191
 replace hs26 := hs26.mono hle191
 replace hs35 := hs35.mono hle191
 replace hs37 := hs37.mono hle191
 replace hs49 := hs49.mono hle191
 replace hs51 := hs51.mono hle191
 replace hs62 := hs62.mono hle191
 replace hs64 := hs64.mono hle191
 replace hs76 := hs76.mono hle191
 replace hs78 := hs78.mono hle191
 replace hs88 := hs88.mono hle191
 replace hs90 := hs90.mono hle191
 replace hs98 := hs98.mono hle191
 replace hs107 := hs107.mono hle191
 replace hs109 := hs109.mono hle191
 replace hs119 := hs119.mono hle191
 replace hs121 := hs121.mono hle191
 replace hs132 := hs132.mono hle191
 replace hs134 := hs134.mono hle191
 replace hs142 := hs142.mono hle191
 replace hs151 := hs151.mono hle191
 replace hs153 := hs153.mono hle191
 replace hs161 := hs161.mono hle191
 replace hs170 := hs170.mono hle191
 replace hs172 := hs172.mono hle191
 replace hs180 := hs180.mono hle191
 refine WL.freezeF 1 rfl rfl (by decide) (fun m193 hle194 hs195 => ?_)
 replace hs8 := hs8.mono hle194
 replace hs10 := hs10.mono hle194
 replace hs16 := hs16.mono hle194
 replace hs20 := hs20.mono hle194
 replace hs26 := hs26.mono hle194
 replace hs35 := hs35.mono hle194
 replace hs37 := hs37.mono hle194
 replace hs49 := hs49.mono hle194
 replace hs51 := hs51.mono hle194
 replace hs62 := hs62.mono hle194
 replace hs64 := hs64.mono hle194
 replace hs76 := hs76.mono hle194
 replace hs78 := hs78.mono hle194
 replace hs88 := hs88.mono hle194
 replace hs90 := hs90.mono hle194
 replace hs98 := hs98.mono hle194
 replace hs107 := hs107.mono hle194
 replace hs109 := hs109.mono hle194
 replace hs119 := hs119.mono hle194
 replace hs121 := hs121.mono hle194
 replace hs132 := hs132.mono hle194
 replace hs134 := hs134.mono hle194
 replace hs142 := hs142.mono hle194
 replace hs151 := hs151.mono hle194
 replace hs153 := hs153.mono hle194
 replace hs161 := hs161.mono hle194
 replace hs170 := hs170.mono hle194
 replace hs172 := hs172.mono hle194
 replace hs180 := hs180.mono hle194
 replace hs192 := hs192.mono hle194
 refine WL.tm (T.call Try.call30 rfl (mono30 _ _ wideS ⟨_, _, rfl, hs192, hs195⟩ )) (by decide) fun m196 r197 hle198 hR199 => ?_
 obtain ⟨v200, rfl, hs201⟩ := hR199
 replace hs8 := hs8.mono hle198
 replace hs10 := hs10.mono hle198
 replace hs16 := hs16.mono hle198
 replace hs20 := hs20.mono hle198
 replace hs26 := hs26.mono hle198
 replace hs35 := hs35.mono hle198
 replace hs37 := hs37.mono hle198
 replace hs49 := hs49.mono hle198
 replace hs51 := hs51.mono hle198
 replace hs62 := hs62.mono hle198
 replace hs64 := hs64.mono hle198
 replace hs76 := hs76.mono hle198
 replace hs78 := hs78.mono hle198
 replace hs88 := hs88.mono hle198
 replace hs90 := hs90.mono hle198
 replace hs98 := hs98.mono hle198
 replace hs107 := hs107.mono hle198
 replace hs109 := hs109.mono hle198
 replace hs119 := hs119.mono hle198
 replace hs121 := hs121.mono hle198
 replace hs132 := hs132.mono hle198
 replace hs134 := hs134.mono hle198
 replace hs142 := hs142.mono hle198
 replace hs151 := hs151.mono hle198
 replace hs153 := hs153.mono hle198
 replace hs161 := hs161.mono hle198
 replace hs170 := hs170.mono hle198
 replace hs172 := hs172.mono hle198
 replace hs180 := hs180.mono hle198
 replace hs192 := hs192.mono hle198
 replace hs195 := hs195.mono hle198
 have hl202 := hs201.le
 refine WL.x (X.move rfl) (by decide) ?_
 refine WL.x (X.extract rfl rfl) (by decide) ?_
 refine WL.x (X.extract rfl rfl) (by decide) ?_
 refine WL.x (X.assign rfl) (by decide) ?_
 refine WL.x (X.assign rfl) (by decide) ?_
 refine WL.nil ?_
 refine WK.nThen ?_
 refine WC.seq ?_
 refine WC.seq ?_
 rw [aw_wide2]
 rw [aw_wide1] at hs201
 refine WC.region ?_
 refine WL.x (X.move rfl) (by decide) ?_
 refine WL.x (X.neq rfl rfl) (by decide) ?_
 refine WL.x (X.move rfl) (by decide) ?_
 refine WL.yes rfl rfl ?_
 refine WL.x (X.move rfl) (by decide) ?_
 refine WL.yes rfl rfl ?_
 refine WL.x (X.neq rfl rfl) (by decide) ?_
 refine WL.x (X.pickF rfl rfl rfl) (by decide) ?_
 refine WL.x (X.move rfl) (by decide) ?_
 refine WL.yes rfl rfl ?_
 refine WL.x (X.move rfl) (by decide) ?_
 refine WL.yes rfl rfl ?_
 refine WL.x (X.neq rfl rfl) (by decide) ?_
 refine WL.x (X.pickF rfl rfl rfl) (by decide) ?_
 refine WL.x (X.move rfl) (by decide) ?_
 refine WL.yes rfl rfl ?_
 refine WL.x (X.move rfl) (by decide) ?_
 refine WL.yes rfl rfl ?_
 refine WL.x (X.neq rfl rfl) (by decide) ?_
 refine WL.x (X.pickF rfl rfl rfl) (by decide) ?_
 refine WL.x (X.move rfl) (by decide) ?_
 refine WL.yes rfl rfl ?_
 refine WL.x (X.move rfl) (by decide) ?_
 refine WL.yes rfl rfl ?_
 refine WL.x (X.neq rfl rfl) (by decide) ?_
 refine WL.x (X.pickF rfl rfl rfl) (by decide) ?_
 refine WL.x (X.move rfl) (by decide) ?_
 refine WL.yes rfl rfl ?_
 refine WL.x (X.move rfl) (by decide) ?_
 refine WL.yes rfl rfl ?_
 refine WL.x (X.neq rfl rfl) (by decide) ?_
 refine WL.x (X.pickF rfl rfl rfl) (by decide) ?_
 refine WL.x (X.move rfl) (by decide) ?_
 refine WL.yes rfl rfl ?_
 refine WL.x (X.move rfl) (by decide) ?_
 refine WL.yes rfl rfl ?_
 refine WL.x (X.neq rfl rfl) (by decide) ?_
 refine WL.x (X.pickF rfl rfl rfl) (by decide) ?_
 refine WL.x (X.move rfl) (by decide) ?_
 refine WL.yes rfl rfl ?_
 refine WL.x (X.move rfl) (by decide) ?_
 refine WL.yes rfl rfl ?_
 refine WL.x (X.neq rfl rfl) (by decide) ?_
 refine WL.x (X.pickF rfl rfl rfl) (by decide) ?_
 refine WL.x (X.move rfl) (by decide) ?_
 refine WL.yes rfl rfl ?_
 refine WL.x (X.move rfl) (by decide) ?_
 refine WL.yes rfl rfl ?_
 refine WL.x (X.neq rfl rfl) (by decide) ?_
 refine WL.x (X.pickF rfl rfl rfl) (by decide) ?_
 refine WL.x (X.move rfl) (by decide) ?_
 refine WL.yes rfl rfl ?_
 refine WL.x (X.move rfl) (by decide) ?_
 refine WL.yes rfl rfl ?_
 refine WL.x (X.neq rfl rfl) (by decide) ?_
 refine WL.x (X.pickF rfl rfl rfl) (by decide) ?_
 refine WL.nil ?_
 refine WK.nThen ?_
 refine WC.condF rfl ?_
 refine WC.skip ?_
 refine WK.nThen ?_
 refine WC.seq ?_
 refine WC.region ?_
 refine WL.x (X.move rfl) (by decide) ?_
 refine WL.tm (T.litM (α := Int) (vals := [.int .i64 (100), .int .i64 (101), .int .i64 (95)]) (L := [100, 101, 95]) sl28 rfl (.cons rfl rfl (.cons rfl rfl (.cons rfl rfl .nil))) rfl rfl) (by decide) (fun m203 v204 hle205 hs206 => ?_)
 replace hs8 := hs8.mono hle205
 replace hs10 := hs10.mono hle205
 replace hs16 := hs16.mono hle205
 replace hs20 := hs20.mono hle205
 replace hs26 := hs26.mono hle205
 replace hs35 := hs35.mono hle205
 replace hs37 := hs37.mono hle205
 replace hs49 := hs49.mono hle205
 replace hs51 := hs51.mono hle205
 replace hs62 := hs62.mono hle205
 replace hs64 := hs64.mono hle205
 replace hs76 := hs76.mono hle205
 replace hs78 := hs78.mono hle205
 replace hs88 := hs88.mono hle205
 replace hs90 := hs90.mono hle205
 replace hs98 := hs98.mono hle205
 replace hs107 := hs107.mono hle205
 replace hs109 := hs109.mono hle205
 replace hs119 := hs119.mono hle205
 replace hs121 := hs121.mono hle205
 replace hs132 := hs132.mono hle205
 replace hs134 := hs134.mono hle205
 replace hs142 := hs142.mono hle205
 replace hs151 := hs151.mono hle205
 replace hs153 := hs153.mono hle205
 replace hs161 := hs161.mono hle205
 replace hs170 := hs170.mono hle205
 replace hs172 := hs172.mono hle205
 replace hs180 := hs180.mono hle205
 replace hs192 := hs192.mono hle205
 replace hs195 := hs195.mono hle205
 replace hs201 := hs201.mono hle205
 refine WL.x (OpX.t (X.call Try.call27 rfl (sameInts27 _ _ _ hs26 _ _ hs206 )) rfl) (by decide) ?_
 refine WL.x (X.move rfl) (by decide) ?_
 refine WL.yes rfl rfl ?_
 refine WL.x (X.loadBA (k := 6) Try.isAgg33 Try.sizeOf33 rfl rfl rfl) (by decide) ?_
 refine WL.yes rfl rfl ?_
 refine WL.x (V := Value.agg [.int .i64 (90), .int .i64 (100)].toArray) (X.build Try.zeroValue33 Try.runUnderlying33 (places33 _ Try.underlying33) rfl rfl) (by decide) ?_
 refine WL.yes rfl rfl ?_
 refine WL.x (OpX.t (X.eqlS (a := (Span.mk (90) (100))) (b := (Span.mk (90) (100))) gd33 (fun w => eqS33 9998 _ _ w) rfl rfl) rfl) (by decide) ?_
 refine WL.x (X.pickT rfl rfl rfl) (by decide) ?_
 refine WL.x (X.move rfl) (by decide) ?_
 refine WL.yes rfl rfl ?_
 refine WL.x (X.loadBA (k := 5) Try.isAgg33 Try.sizeOf33 rfl rfl rfl) (by decide) ?_
 refine WL.yes rfl rfl ?_
 refine WL.x (V := Value.agg [.int .i64 (101), .int .i64 (102)].toArray) (X.build Try.zeroValue33 Try.runUnderlying33 (places33 _ Try.underlying33) rfl rfl) (by decide) ?_
 refine WL.yes rfl rfl ?_
 refine WL.x (OpX.t (X.eqlS (a := (Span.mk (101) (102))) (b := (Span.mk (101) (102))) gd33 (fun w => eqS33 9998 _ _ w) rfl rfl) rfl) (by decide) ?_
 refine WL.x (X.pickT rfl rfl rfl) (by decide) ?_
 refine WL.x (X.move rfl) (by decide) ?_
 refine WL.yes rfl rfl ?_
 refine WL.x (X.loadBA (k := 4) Try.isAgg33 Try.sizeOf33 rfl rfl rfl) (by decide) ?_
 refine WL.yes rfl rfl ?_
 refine WL.x (V := Value.agg [.int .i64 (0), .int .i64 (2)].toArray) (X.build Try.zeroValue33 Try.runUnderlying33 (places33 _ Try.underlying33) rfl rfl) (by decide) ?_
 refine WL.yes rfl rfl ?_
 refine WL.x (OpX.t (X.eqlS (a := (Span.mk (0) (2))) (b := (Span.mk (0) (2))) gd33 (fun w => eqS33 9998 _ _ w) rfl rfl) rfl) (by decide) ?_
 refine WL.x (X.pickT rfl rfl rfl) (by decide) ?_
 refine WL.x (X.move rfl) (by decide) ?_
 refine WL.yes rfl rfl ?_
 refine WL.x (X.loadBA (k := 3) Try.isAgg45 Try.sizeOf45 rfl rfl rfl) (by decide) ?_
 refine WL.yes rfl rfl ?_
 refine WL.x (V := Value.agg [.int .i64 (-59), .int .i64 (14)].toArray) (X.build Try.zeroValue45 Try.runUnderlying45 (places45 _ Try.underlying45) rfl rfl) (by decide) ?_
 refine WL.yes rfl rfl ?_
 refine WL.x (OpX.t (X.eqlS (a := (Ratio.mk (-59) (14))) (b := (Ratio.mk (-59) (14))) gd45 (fun w => eqS45 9998 _ _ w) rfl rfl) rfl) (by decide) ?_
 refine WL.x (X.pickT rfl rfl rfl) (by decide) ?_
 refine WL.x (X.move rfl) (by decide) ?_
 refine WL.yes rfl rfl ?_
 refine WL.x (X.loadBA (k := 2) Try.isAgg45 Try.sizeOf45 rfl rfl rfl) (by decide) ?_
 refine WL.yes rfl rfl ?_
 refine WL.x (V := Value.agg [.int .i64 (-1), .int .i64 (14)].toArray) (X.build Try.zeroValue45 Try.runUnderlying45 (places45 _ Try.underlying45) rfl rfl) (by decide) ?_
 refine WL.yes rfl rfl ?_
 refine WL.x (OpX.t (X.eqlS (a := (Ratio.mk (-1) (14))) (b := (Ratio.mk (-1) (14))) gd45 (fun w => eqS45 9998 _ _ w) rfl rfl) rfl) (by decide) ?_
 refine WL.x (X.pickT rfl rfl rfl) (by decide) ?_
 refine WL.x (X.move rfl) (by decide) ?_
 refine WL.yes rfl rfl ?_
 refine WL.x (X.move rfl) (by decide) ?_
 refine WL.yes rfl rfl ?_
 refine WL.tm (T.litM (α := Int) (vals := [.int .i64 (3)]) (L := [3]) sl28 rfl (.cons rfl rfl .nil) rfl rfl) (by decide) (fun m207 v208 hle209 hs210 => ?_)
 replace hs8 := hs8.mono hle209
 replace hs10 := hs10.mono hle209
 replace hs16 := hs16.mono hle209
 replace hs20 := hs20.mono hle209
 replace hs26 := hs26.mono hle209
 replace hs35 := hs35.mono hle209
 replace hs37 := hs37.mono hle209
 replace hs49 := hs49.mono hle209
 replace hs51 := hs51.mono hle209
 replace hs62 := hs62.mono hle209
 replace hs64 := hs64.mono hle209
 replace hs76 := hs76.mono hle209
 replace hs78 := hs78.mono hle209
 replace hs88 := hs88.mono hle209
 replace hs90 := hs90.mono hle209
 replace hs98 := hs98.mono hle209
 replace hs107 := hs107.mono hle209
 replace hs109 := hs109.mono hle209
 replace hs119 := hs119.mono hle209
 replace hs121 := hs121.mono hle209
 replace hs132 := hs132.mono hle209
 replace hs134 := hs134.mono hle209
 replace hs142 := hs142.mono hle209
 replace hs151 := hs151.mono hle209
 replace hs153 := hs153.mono hle209
 replace hs161 := hs161.mono hle209
 replace hs170 := hs170.mono hle209
 replace hs172 := hs172.mono hle209
 replace hs180 := hs180.mono hle209
 replace hs192 := hs192.mono hle209
 replace hs195 := hs195.mono hle209
 replace hs201 := hs201.mono hle209
 replace hs206 := hs206.mono hle209
 refine WL.yes rfl rfl ?_
 refine WL.x (OpX.t (X.call Try.call27 rfl (sameInts27 _ _ _ hs98 _ _ hs210 )) rfl) (by decide) ?_
 refine WL.x (X.pickT rfl rfl rfl) (by decide) ?_
 refine WL.x (X.move rfl) (by decide) ?_
 refine WL.yes rfl rfl ?_
 refine WL.x (X.loadBA (k := 1) Try.isAgg33 Try.sizeOf33 rfl rfl rfl) (by decide) ?_
 refine WL.yes rfl rfl ?_
 refine WL.x (V := Value.agg [.int .i64 (-11), .int .i64 (-1)].toArray) (X.build Try.zeroValue33 Try.runUnderlying33 (places33 _ Try.underlying33) rfl rfl) (by decide) ?_
 refine WL.yes rfl rfl ?_
 refine WL.x (OpX.t (X.eqlS (a := (Span.mk (-11) (-1))) (b := (Span.mk (-11) (-1))) gd33 (fun w => eqS33 9998 _ _ w) rfl rfl) rfl) (by decide) ?_
 refine WL.x (X.pickT rfl rfl rfl) (by decide) ?_
 refine WL.x (X.move rfl) (by decide) ?_
 refine WL.yes rfl rfl ?_
 refine WL.x (X.move rfl) (by decide) ?_
 refine WL.yes rfl rfl ?_
 refine WL.x (X.eql rfl rfl) (by decide) ?_
 refine WL.x (X.pickT rfl rfl rfl) (by decide) ?_
 refine WL.x (X.move rfl) (by decide) ?_
 refine WL.yes rfl rfl ?_
 refine WL.x (X.move rfl) (by decide) ?_
 refine WL.yes rfl rfl ?_
 refine WL.tm (T.litM (α := Int) (vals := [.int .i64 (3)]) (L := [3]) sl28 rfl (.cons rfl rfl .nil) rfl rfl) (by decide) (fun m211 v212 hle213 hs214 => ?_)
 replace hs8 := hs8.mono hle213
 replace hs10 := hs10.mono hle213
 replace hs16 := hs16.mono hle213
 replace hs20 := hs20.mono hle213
 replace hs26 := hs26.mono hle213
 replace hs35 := hs35.mono hle213
 replace hs37 := hs37.mono hle213
 replace hs49 := hs49.mono hle213
 replace hs51 := hs51.mono hle213
 replace hs62 := hs62.mono hle213
 replace hs64 := hs64.mono hle213
 replace hs76 := hs76.mono hle213
 replace hs78 := hs78.mono hle213
 replace hs88 := hs88.mono hle213
 replace hs90 := hs90.mono hle213
 replace hs98 := hs98.mono hle213
 replace hs107 := hs107.mono hle213
 replace hs109 := hs109.mono hle213
 replace hs119 := hs119.mono hle213
 replace hs121 := hs121.mono hle213
 replace hs132 := hs132.mono hle213
 replace hs134 := hs134.mono hle213
 replace hs142 := hs142.mono hle213
 replace hs151 := hs151.mono hle213
 replace hs153 := hs153.mono hle213
 replace hs161 := hs161.mono hle213
 replace hs170 := hs170.mono hle213
 replace hs172 := hs172.mono hle213
 replace hs180 := hs180.mono hle213
 replace hs192 := hs192.mono hle213
 replace hs195 := hs195.mono hle213
 replace hs201 := hs201.mono hle213
 replace hs206 := hs206.mono hle213
 replace hs210 := hs210.mono hle213
 refine WL.yes rfl rfl ?_
 refine WL.x (OpX.t (X.call Try.call27 rfl (sameInts27 _ _ _ hs142 _ _ hs214 )) rfl) (by decide) ?_
 refine WL.x (X.pickT rfl rfl rfl) (by decide) ?_
 refine WL.x (X.move rfl) (by decide) ?_
 refine WL.yes rfl rfl ?_
 refine WL.x (X.move rfl) (by decide) ?_
 refine WL.yes rfl rfl ?_
 refine WL.tm (T.litM (α := Int) (vals := [.int .i64 (1), .int .i64 (3)]) (L := [1, 3]) sl28 rfl (.cons rfl rfl (.cons rfl rfl .nil)) rfl rfl) (by decide) (fun m215 v216 hle217 hs218 => ?_)
 replace hs8 := hs8.mono hle217
 replace hs10 := hs10.mono hle217
 replace hs16 := hs16.mono hle217
 replace hs20 := hs20.mono hle217
 replace hs26 := hs26.mono hle217
 replace hs35 := hs35.mono hle217
 replace hs37 := hs37.mono hle217
 replace hs49 := hs49.mono hle217
 replace hs51 := hs51.mono hle217
 replace hs62 := hs62.mono hle217
 replace hs64 := hs64.mono hle217
 replace hs76 := hs76.mono hle217
 replace hs78 := hs78.mono hle217
 replace hs88 := hs88.mono hle217
 replace hs90 := hs90.mono hle217
 replace hs98 := hs98.mono hle217
 replace hs107 := hs107.mono hle217
 replace hs109 := hs109.mono hle217
 replace hs119 := hs119.mono hle217
 replace hs121 := hs121.mono hle217
 replace hs132 := hs132.mono hle217
 replace hs134 := hs134.mono hle217
 replace hs142 := hs142.mono hle217
 replace hs151 := hs151.mono hle217
 replace hs153 := hs153.mono hle217
 replace hs161 := hs161.mono hle217
 replace hs170 := hs170.mono hle217
 replace hs172 := hs172.mono hle217
 replace hs180 := hs180.mono hle217
 replace hs192 := hs192.mono hle217
 replace hs195 := hs195.mono hle217
 replace hs201 := hs201.mono hle217
 replace hs206 := hs206.mono hle217
 replace hs210 := hs210.mono hle217
 replace hs214 := hs214.mono hle217
 refine WL.yes rfl rfl ?_
 refine WL.x (OpX.t (X.call Try.call27 rfl (sameInts27 _ _ _ hs161 _ _ hs218 )) rfl) (by decide) ?_
 refine WL.x (X.pickT rfl rfl rfl) (by decide) ?_
 refine WL.x (X.move rfl) (by decide) ?_
 refine WL.yes rfl rfl ?_
 refine WL.x (X.move rfl) (by decide) ?_
 refine WL.yes rfl rfl ?_
 refine WL.tm (T.litM (α := Int) (vals := [.int .i64 (100), .int .i64 (101), .int .i64 (101)]) (L := [100, 101, 101]) sl28 rfl (.cons rfl rfl (.cons rfl rfl (.cons rfl rfl .nil))) rfl rfl) (by decide) (fun m219 v220 hle221 hs222 => ?_)
 replace hs8 := hs8.mono hle221
 replace hs10 := hs10.mono hle221
 replace hs16 := hs16.mono hle221
 replace hs20 := hs20.mono hle221
 replace hs26 := hs26.mono hle221
 replace hs35 := hs35.mono hle221
 replace hs37 := hs37.mono hle221
 replace hs49 := hs49.mono hle221
 replace hs51 := hs51.mono hle221
 replace hs62 := hs62.mono hle221
 replace hs64 := hs64.mono hle221
 replace hs76 := hs76.mono hle221
 replace hs78 := hs78.mono hle221
 replace hs88 := hs88.mono hle221
 replace hs90 := hs90.mono hle221
 replace hs98 := hs98.mono hle221
 replace hs107 := hs107.mono hle221
 replace hs109 := hs109.mono hle221
 replace hs119 := hs119.mono hle221
 replace hs121 := hs121.mono hle221
 replace hs132 := hs132.mono hle221
 replace hs134 := hs134.mono hle221
 replace hs142 := hs142.mono hle221
 replace hs151 := hs151.mono hle221
 replace hs153 := hs153.mono hle221
 replace hs161 := hs161.mono hle221
 replace hs170 := hs170.mono hle221
 replace hs172 := hs172.mono hle221
 replace hs180 := hs180.mono hle221
 replace hs192 := hs192.mono hle221
 replace hs195 := hs195.mono hle221
 replace hs201 := hs201.mono hle221
 replace hs206 := hs206.mono hle221
 replace hs210 := hs210.mono hle221
 replace hs214 := hs214.mono hle221
 replace hs218 := hs218.mono hle221
 refine WL.yes rfl rfl ?_
 refine WL.x (OpX.t (X.call Try.call27 rfl (sameInts27 _ _ _ hs201 _ _ hs222 )) rfl) (by decide) ?_
 refine WL.x (X.pickT rfl rfl rfl) (by decide) ?_
 refine WL.x (X.assign rfl) (by decide) ?_
 refine WL.nil ?_
 refine WK.nThen ?_
 refine WC.ret ?_
 refine WK.ret1 rfl rfl (fun w' hw' => Ret.exact hw' ?_)
 rfl

end Go.Proofs.C8
