import Derived.Test.YtooomcigmleneaaGreatKyA
import Derived.Test.YtooomcigmleneaaGreatKxU
import Derived.Test.YtooomcigmleneaaGreatKxV
/- Ky, part B: arrays of the call's own by their slices; blocks as rows; any cells as data. -/
namespace Go.Kx
open Go
instance : Enc RawV := Flat.toEnc RawV
instance : FlatEnc RawV := ⟨rfl, fun _ _ => rfl⟩
section
variable {P : Program} {B : Base} {m : Mem} {H : List Ent} {σ : Sig} {ty : TypeId}
theorem X.slArL {x y : Operand} {t e : TypeId} {n sz b off : Nat} {q : Int} (k : Nat) (ht : P.underlying t = some (.array n e)) (hz : ∀ w, (sizeOf e).run P w = .ok sz w)
    (hx : ev σ x = some (.pointer (some ⟨b, off, none⟩))) (hy : ev σ y = some (.int .i64 q)) (hq : q = k) (h1 : k < n) : OpX P B m H σ (.slice t x (some y) none none) ty (.slice (some ⟨b, off + k * sz, none⟩) (n - k) (n - k)) := by
  subst hq
  have he : P.elem t = e := by simp [Program.elem, ht]
  have hc : P.arrayLen t = n := by simp [Program.arrayLen, ht]
  have ht' : P.underlying t = some (.array (P.arrayLen t) (P.elem t)) := by rw [he, hc]; exact ht
  refine .ofRun trivial (defdL (l := [x, y]) rfl (by simp only [List.mem_cons, forall_eq_or_imp, List.not_mem_nil, false_imp_iff, implies_true, and_true]; exact ⟨⟨_, hx⟩, ⟨_, hy⟩⟩)) fun w _ o ho _ => ?_
  have hr := run_sliceAt_array_l (P := P) w t ⟨b, off, none⟩ ht' .i64 k (by omega) (by rw [hc]; omega)
  rw [he, hz, hc] at hr
  have h00 : (⟨b, off, none⟩ : Addr).add (k * sz) = ⟨b, off + k * sz, none⟩ := Addr.add_plain rfl _
  simp only [Result.andThen_ok, _root_.Go.slicedAt, Int.toNat_natCast, if_neg (show ¬ n = k by omega), h00] at hr
  simp [execOp, ho, evd_eq hx, evd_eq hy, hr]
theorem X.slArA {x : Operand} {t e : TypeId} {n sz b off : Nat} (ht : P.underlying t = some (.array n e)) (hz : ∀ w, (sizeOf e).run P w = .ok sz w)
    (hx : ev σ x = some (.pointer (some ⟨b, off, none⟩))) : OpX P B m H σ (.slice t x none none none) ty (.slice (some ⟨b, off, none⟩) n n) := by
  have he : P.elem t = e := by simp [Program.elem, ht]
  have hc : P.arrayLen t = n := by simp [Program.arrayLen, ht]
  have ht' : P.underlying t = some (.array (P.arrayLen t) (P.elem t)) := by rw [he, hc]; exact ht
  refine .ofRun trivial (defd1 rfl hx) fun w _ o ho _ => ?_
  have hr := run_sliceAt_array_all (P := P) w t ⟨b, off, none⟩ ht'
  rw [he, hz, hc] at hr
  have h00 : (⟨b, off, none⟩ : Addr).add (0 * sz) = ⟨b, off, none⟩ := by rw [Nat.zero_mul]; exact Addr.add_plain rfl _
  simp only [Result.andThen_ok, _root_.Go.slicedAt, h00, ite_self, Nat.sub_zero] at hr
  simp [execOp, ho, evd_eq hx, hr]
theorem WK.blkRow {N : Nat} {K : Act → World → Prop} {k b n : Nat} {T : TypeId} {cs : List Value} (hH : fetch H k = some (blk b T cs)) (hl : cs.length = n) (hm : n ≤ maxLen)
    (kk : WK N B m (upd H k (row (.slice (some ⟨b, 0, none⟩) n n) T 1 n cs)) σ K) : WK N B m H σ K := fun Ds w hw a ha => by
  have hf := fetchR (R := marks Ds) hH
  have hh : (blk b T cs).holds w := fetch_holds hw hf
  refine kk Ds w ?_ a ha
  rw [← updR hH]
  refine hw.change hf rfl rfl rfl (Nat.le_refl _) (fun _ _ _ => rfl) ⟨by rw [hl, Nat.mul_one], .inr ⟨b, n, cs.toArray, rfl, Nat.zero_le _, hh, Nat.le_refl _, hm, by simp [hl], by simp [← hl]⟩⟩ (fun c hc => .inl (by simpa [row, blk, Value.ownBlock] using hc)) (by simp [row, Value.ownBlock])
end
def Bk (xs : List Value) : Prop := xs.length = 64 ∧ ∀ u ∈ xs, u.oneCell' = true
theorem Bk.zero : Bk (List.replicate 64 (.int .u8 0)) := ⟨by simp, fun u hu => by rw [(List.mem_replicate.1 hu).2]; rfl⟩
theorem Bk.set {xs : List Value} (h : Bk xs) (i : Nat) {v : Value} (hv : v.oneCell' = true) : Bk (xs.set i v) := ⟨by rw [List.length_set]; exact h.1, fun u hu => by
  rcases List.mem_or_eq_of_mem_set hu with h1 | rfl
  · exact h.2 u h1
  · exact hv⟩
theorem Bk.copy {xs cs : List Value} (h : Bk xs) {off : Nat} (hl : off + cs.length ≤ 64) (hc : ∀ v ∈ cs, v.oneCell' = true) : Bk (xs.take off ++ cs ++ xs.drop (off + cs.length)) := by
  have h1 := h.1
  refine ⟨by simp; omega, fun u hu => ?_⟩
  rcases List.mem_append.1 hu with h2 | h2
  · rcases List.mem_append.1 h2 with h3 | h3
    · exact h.2 u (List.mem_of_mem_take h3)
    · exact hc u h3
  · exact h.2 u (List.mem_of_mem_drop h2)
theorem Bk.part {xs : List Value} : ∀ j u, xs[j]? = some u → xs[0 + j]? = some u := fun j u hu => by rw [Nat.zero_add]; exact hu
theorem T.copyB {P : Program} {B : Base} {m : Mem} {H : List Ent} {σ : Sig} {ty : TypeId} {s x : Operand} {t t' e e' : TypeId} {g off dl dc n0 c0 n k : Nat} {v : Value} {xs : List Value} {L : List RawV} (ht : P.underlying t = some (.slice e)) (hz : ∀ w, (sizeOf e).run P w = .ok 1 w)
    (hd : ev σ s = some (.slice (some ⟨g, off, none⟩) dl dc)) (hx : ev σ x = some v) (hs : Sl m v L) (hH : fetch H k = some (row (.slice (some ⟨g, 0, none⟩) n0 c0) e' 1 n xs)) (hB : Bk xs) (h0 : 0 < L.length) (hL : L.length ≤ dl) (hfit : off + L.length ≤ 64) :
    OpTo P B m H σ (.call (Call.mk (.builtin .copy) #[s, x] #[t, t'])) ty (fun _ m' H' => m' = m ∧ ∃ ys, Bk ys ∧ H' = upd H k (row (.slice (some ⟨g, 0, none⟩) n0 c0) e' 1 n ys)) := by
  obtain ⟨news, g1, g2, g3⟩ := hs.src
  have hnl : news.length = L.length := g1.1.trans (Nat.mul_one _)
  rcases g3 with ⟨hv, rfl⟩ | ⟨p, cap, hv, _, g4⟩
  · simp at h0
  · have h1 : ∀ u ∈ news, u.oneCell' = true := fun u hu => by
      obtain ⟨j, hj, rfl⟩ := List.mem_iff_getElem.1 hu
      obtain ⟨vs, h2, h3⟩ := g1.2 j L[j] (by simp [show j < L.length by omega])
      have h4 : vs = [L[j].v] := h2
      subst h4
      have h5 := h3 0 _ rfl
      have h6 : j * Enc.sz RawV + 0 = j := Nat.mul_one j
      rw [h6, List.getElem?_eq_getElem hj] at h5
      rw [Option.some.inj h5]; exact (L[j]).one
    have := T.copyR (P := P) (B := B) (m := m) (H := H) (σ := σ) (ty := ty) (t' := t') news ht hz hd (hx.trans (congrArg some hv)) hH (by rw [hnl, Nat.min_eq_left hL, Nat.mul_one]) (fun B w hw j u hj => by have := g4 w hw.sub j u hj; simpa using this)
      (by rw [hnl, hB.1]; exact hfit) (by omega) h1
    exact ⟨this.sel, this.defd, fun M B w hw o ac next Q ho ht k' => this.run M B w hw o ac next Q ho ht fun v' m' H' w' h hst => k' v' m' H' w' ⟨h.2.1, _, hB.copy (by omega) h1, h.2.2⟩ hst⟩
end Go.Kx
