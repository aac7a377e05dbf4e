import Derived.Test.YtednficclnjmjaaC8Mono
/- Century: the examples of the document, reckoned. -/
namespace Go.Proofs.C8
open Go Go.Kx
def wideS : Ser := ⟨[⟨0, ⟨100, 102⟩⟩, ⟨1, ⟨101, 101⟩⟩, ⟨3, ⟨90, 95⟩⟩], [⟨2, ⟨-6, 0⟩⟩]⟩
theorem aw_even : evenR sampleS [100, 101, 90] [-5] = ([100, 101, 95], 0) := by decide +kernel
theorem aw_ext : extR sampleS ⟨0, 3⟩ = (⟨90, 100⟩, ⟨101, 102⟩, 0) := by decide +kernel
theorem aw_rank : rankR sampleS 0 = (⟨0, 2⟩, 0) := by decide +kernel
theorem aw_slope : slopeR sampleS = (⟨-59, 14⟩, ⟨-1, 14⟩, 0) := by decide +kernel
theorem aw_brk : brkR sampleS levelS 1 = ([3], 0) := by decide +kernel
theorem aw_adj : adjR sampleS levelS 3 0 = (⟨-11, -1⟩, 0) := by decide +kernel
theorem aw_stp : stpR sampleS 0 = ([3], 0) := by decide +kernel
theorem aw_fall : fallR sampleS = ([1, 3], 0) := by decide +kernel
theorem aw_chk : chkE sampleS = 0 := by decide +kernel
theorem aw_chkw : chkE wideS = 0 := by decide +kernel
theorem aw_m1 : mF sampleS 9 (mStart sampleS) = some none := by decide +kernel
theorem aw_m2 : mF wideS 9 (mStart wideS) = some (some [100, 101, 101]) := by decide +kernel
theorem fuel9 : fuelM = 9 + 1999999991 := rfl
theorem aw_mono : monoR sampleS = ([], 3) := by
  rw [monoR, if_neg (by rw [aw_chk]; omega), fuel9, mF_more _ aw_m1]
theorem aw_wide : monoR wideS = ([100, 101, 101], 0) := by
  rw [monoR, if_neg (by rw [aw_chkw]; omega), fuel9, mF_more _ aw_m2]
theorem aw_even1 : (evenR sampleS [100, 101, 90] [-5]).1 = [100, 101, 95] := by rw [aw_even]
theorem aw_even2 : (evenR sampleS [100, 101, 90] [-5]).2 = 0 := by rw [aw_even]
theorem aw_ext1 : (extR sampleS ⟨0, 3⟩).1.Lo = 90 := by rw [aw_ext]
theorem aw_ext2 : (extR sampleS ⟨0, 3⟩).1.Hi = 100 := by rw [aw_ext]
theorem aw_ext3 : (extR sampleS ⟨0, 3⟩).2.1.Lo = 101 := by rw [aw_ext]
theorem aw_ext4 : (extR sampleS ⟨0, 3⟩).2.1.Hi = 102 := by rw [aw_ext]
theorem aw_ext5 : (extR sampleS ⟨0, 3⟩).2.2 = 0 := by rw [aw_ext]
theorem aw_rank1 : (rankR sampleS 0).1.Lo = 0 := by rw [aw_rank]
theorem aw_rank2 : (rankR sampleS 0).1.Hi = 2 := by rw [aw_rank]
theorem aw_rank3 : (rankR sampleS 0).2 = 0 := by rw [aw_rank]
theorem aw_slope1 : (slopeR sampleS).1.Num = -59 := by rw [aw_slope]
theorem aw_slope2 : (slopeR sampleS).1.Den = 14 := by rw [aw_slope]
theorem aw_slope3 : (slopeR sampleS).2.1.Num = -1 := by rw [aw_slope]
theorem aw_slope4 : (slopeR sampleS).2.1.Den = 14 := by rw [aw_slope]
theorem aw_slope5 : (slopeR sampleS).2.2 = 0 := by rw [aw_slope]
theorem aw_brk1 : (brkR sampleS levelS 1).1 = [3] := by rw [aw_brk]
theorem aw_brk2 : (brkR sampleS levelS 1).2 = 0 := by rw [aw_brk]
theorem aw_adj1 : (adjR sampleS levelS 3 0).1.Lo = -11 := by rw [aw_adj]
theorem aw_adj2 : (adjR sampleS levelS 3 0).1.Hi = -1 := by rw [aw_adj]
theorem aw_adj3 : (adjR sampleS levelS 3 0).2 = 0 := by rw [aw_adj]
theorem aw_stp1 : (stpR sampleS 0).1 = [3] := by rw [aw_stp]
theorem aw_stp2 : (stpR sampleS 0).2 = 0 := by rw [aw_stp]
theorem aw_stp3 : ((stpR sampleS 0).1.length : Int) = 1 := by rw [aw_stp]; rfl
theorem aw_fall1 : (fallR sampleS).1 = [1, 3] := by rw [aw_fall]
theorem aw_fall2 : (fallR sampleS).2 = 0 := by rw [aw_fall]
theorem aw_mono1 : (monoR sampleS).1 = [] := by rw [aw_mono]
theorem aw_mono2 : (monoR sampleS).2 = 3 := by rw [aw_mono]
theorem aw_wide1 : (monoR wideS).1 = [100, 101, 101] := by rw [aw_wide]
theorem aw_wide2 : (monoR wideS).2 = 0 := by rw [aw_wide]
end Go.Proofs.C8
