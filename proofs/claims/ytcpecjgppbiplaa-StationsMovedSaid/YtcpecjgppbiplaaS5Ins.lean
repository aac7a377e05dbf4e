/- Stations: slices.overlaps at heights, as the model answers it. -/
import Derived.Test.YtcpecjgppbiplaaS5Move
import Derived.Test.YtcpecjgppbiplaaKxT
namespace Go.Proofs.S5
open Go Go.Kx
theorem ov105 {B : Base} {m : Mem} {H : List Ent} {w : World} (hw : St B m H w) {j k b g n c off la ca lb cb : Nat} {T e' : TypeId} {cs xs : List Value} {sz' : Nat} (hb : fetch H j = some (blk b T cs)) (hr : fetch H k = some (row (.slice (some ⟨g, 0, none⟩) n c) e' sz' n xs)) (hn : 0 < n) (hs : 0 < sz') (hjk : j ≠ k) :
    (callFunc 105 ([.slice (some ⟨b, 0, none⟩) la ca, .slice (some ⟨g, off, none⟩) lb cb] : List Value).toArray).run Try.prog w = .ok (.value (.bool false)) w := by
  show (callFunc 105 #[.slice (some ⟨b, 0, none⟩) la ca, .slice (some ⟨g, off, none⟩) lb cb]).run Try.prog w = _
  rw [run_callFunc_extern Try.func105 (by kernel_rfl) (by kernel_rfl) (by kernel_rfl) (e := Extern.SlicesOverlaps.overlaps #[56, 56] #[4]) (by kernel_rfl)]
  rw [run_overlaps_own hw Try.underlying56 Try.sizeOf71 hb hr hn hs (two_apart hw hb hr hjk)]
  rfl
/-- where one is put in -/
theorem insH_at {h : Height} : ∀ {l : List Height} {k : Nat}, k ≤ l.length → (∀ j, j < k → (gt l j).Week < h.Week) → (k < l.length → ¬ (gt l k).Week < h.Week) → insH l h = l.take k ++ h :: l.drop k
  | [], k, hk, _, _ => by
    have : k = 0 := by simpa using hk
    subst this; rfl
  | x :: l, 0, _, _, he => by
    have h1 := he (by simp)
    have h2 : gt (x :: l) 0 = x := rfl
    rw [h2] at h1
    rw [insH, if_neg h1]; rfl
  | x :: l, k + 1, hk, ha, he => by
    have h1 := ha 0 (by omega)
    have h2 : gt (x :: l) 0 = x := rfl
    rw [h2] at h1
    have hs : ∀ j, gt (x :: l) (j + 1) = gt l j := fun j => rfl
    rw [insH, if_pos h1, insH_at (k := k) (by simpa using hk) (fun j hj => by have := ha (j + 1) (by omega); rwa [hs] at this) (fun hj => by have := he (by simpa using hj); rwa [hs] at this)]
    rfl
theorem insH_len (h : Height) (l : List Height) : (insH l h).length = l.length + 1 := (insH_perm h l).length_eq
/-- the place of the station of a number, or -1 -/
def idxF (l : List Station) (id : Int) : Int := match (List.range l.length).find? (fun i => decide ((gt l i).ID = id)) with
  | some i => (i : Int)
  | none => -1
end Go.Proofs.S5
