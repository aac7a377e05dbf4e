import Derived.Test.YtednficclnjmjaaC8Spec4
/- Century: extremes, in plain Lean. -/
namespace Go.Proofs.C8
open Go Go.Kx
theorem evsL_at {s : Ser} {k : Nat} (hk : k < s.Values.length) : gt (evsL s) k = evS s k := gt_map hk
theorem ext_one' {s : Ser} {x : Span} {k : Nat} (hk : k < s.Values.length) (h : inT x (gt s.Values k).Time) (hf : (extN s x k).2.2 = false) : extN s x (k + 1) =
    (⟨min (gt (evsL s) k).Lo (gt (evsL s) k).Lo, min (gt (evsL s) k).Hi (gt (evsL s) k).Hi⟩, ⟨max (gt (evsL s) k).Lo (gt (evsL s) k).Lo, max (gt (evsL s) k).Hi (gt (evsL s) k).Hi⟩, true) := by
  rw [ext_one h hf, evsL_at hk]
  simp [Int.min_self, Int.max_self]
theorem ext_more' {s : Ser} {x : Span} {k : Nat} (hk : k < s.Values.length) (h : inT x (gt s.Values k).Time) (hf : (extN s x k).2.2 = true) : extN s x (k + 1) =
    (⟨min (extN s x k).1.Lo (gt (evsL s) k).Lo, min (extN s x k).1.Hi (gt (evsL s) k).Hi⟩, ⟨max (extN s x k).2.1.Lo (gt (evsL s) k).Lo, max (extN s x k).2.1.Hi (gt (evsL s) k).Hi⟩, true) := by
  rw [ext_more h hf, evsL_at hk]
theorem len1 {vs : List Value} (h : vs.length = 1) : ∃ x, vs = [x] := by
  match vs, h with
  | [x], _ => exact ⟨x, rfl⟩
theorem extR_err {s : Ser} {x : Span} (h : chkE s ≠ 0) : extR s x = (⟨0, 0⟩, ⟨0, 0⟩, chkE s) := by rw [extR, if_pos h]
theorem extR_arg {s : Ser} {x : Span} (h : chkE s = 0) (h1 : ¬ spOk x 0 10000) : extR s x = (⟨0, 0⟩, ⟨0, 0⟩, 1) := by rw [extR, if_neg (by omega), if_pos h1]
theorem extR_ok {s : Ser} {x : Span} (h : chkE s = 0) (h1 : spOk x 0 10000) (h2 : (extN s x s.Values.length).2.2 = true) : extR s x = ((extN s x s.Values.length).1, (extN s x s.Values.length).2.1, 0) := by
  rw [extR, if_neg (by omega), if_neg (fun hn => hn h1), if_pos h2]
theorem extR_none {s : Ser} {x : Span} (h : chkE s = 0) (h1 : spOk x 0 10000) (h2 : (extN s x s.Values.length).2.2 = false) : extR s x = (⟨0, 0⟩, ⟨0, 0⟩, 3) := by
  rw [extR, if_neg (by omega), if_neg (fun hn => hn h1), if_neg (by simp [h2])]
end Go.Proofs.C8
