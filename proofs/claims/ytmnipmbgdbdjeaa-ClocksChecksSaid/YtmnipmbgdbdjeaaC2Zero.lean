import Derived.Test.YtmnipmbgdbdjeaaC2Gen
/- Clocks: the table of differences, before anything is written: zeros. -/
namespace Go.Proofs.C2
open Go Go.Kx

def isZ : Value → Bool
  | .int .i64 (.ofNat 0) => true
  | _ => false
theorem isZ_eq {v : Value} (h : isZ v = true) : v = .int .i64 0 := by
  unfold isZ at h; split at h
  · rfl
  · cases h
noncomputable def chkZ (L : List Value) : Nat → Bool :=
  List.rec (motive := fun _ => Nat → Bool) (fun n => match n with | 0 => true | _ + 1 => false) (fun a _ ih n => match n with | 0 => false | n + 1 => match isZ a with | true => ih n | false => false) L
theorem chkZ_eq : ∀ (L : List Value) (n : Nat), chkZ L n = true → L = ints (List.replicate n 0)
  | [], 0, _ => rfl
  | [], n + 1, h => by cases h
  | a :: L, 0, h => by cases h
  | a :: L, n + 1, h => by
    have h1 : (match isZ a with | true => chkZ L n | false => false) = true := h
    split at h1
    · rename_i hz
      rw [isZ_eq hz, chkZ_eq L n h1]; rfl
    · cases h1
theorem zc144 : chkZ Try.zeroCells144.toList 40401 = true := by kernel_rfl
theorem zv144 (w : World) : (zeroValue 144).run Try.prog w = .ok (Value.agg (ints (List.replicate 40401 0)).toArray) w := by
  rw [Try.zeroValue144]
  have : Try.zeroCells144 = (ints (List.replicate 40401 0)).toArray := by
    rw [← chkZ_eq _ _ zc144]
  rw [this]
end Go.Proofs.C2
