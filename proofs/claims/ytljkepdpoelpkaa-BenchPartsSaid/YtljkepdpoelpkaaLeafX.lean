/- Plain laws for chapter 20: what a thin lens and a space make of a beam. No program in sight. -/
import Derived.Test.YtljkepdpoelpkaaLeafW
import Derived.WalkKit
namespace Go.Proofs.Ytljkepdpoelpkaa
open Go Go.RowKit
namespace LeafX

end LeafX
open LeafX
theorem div_pos {x y : Rat} (h : 0 < x) (h' : 0 < y) : 0 < x / y := Rat.mul_pos h (Rat.inv_pos.2 h')

theorem toM_of (m : MQ) : toM (rmOf m) = m := by show (⟨toQ (rfOf m.a), toQ (rfOf m.b), toQ (rfOf m.c), toQ (rfOf m.d)⟩ : MQ) = m; rw [toQ_of, toQ_of, toQ_of, toQ_of]
theorem okM_of {m : MQ} (ha : longQ m.a = false) (hb : longQ m.b = false) (hc : longQ m.c = false) (hd : longQ m.d = false) (h : detM m = 1) : okM (rmOf m) = true := by
  unfold okM
  rw [toM_of, decide_eq_true h]
  show ([rfOf m.a, rfOf m.b, rfOf m.c, rfOf m.d].all okX && true) = true
  simp [okX_of, ha, hb, hc, hd]

theorem ok_rf {x : RF} (h : okX x = true) : ∃ r, x = rfOf r ∧ longQ r = false := by
  obtain ⟨e, h1⟩ := okX_q h
  exact ⟨_, e, longQ_false.2 h1⟩
theorem sub_of {r s : Rat} (hr : longQ r = false) (hs : longQ s = false) : subF (rfOf r) (rfOf s) = ansF (r - s) := by
  unfold subF doF
  rw [okX_of, okX_of, hr, hs, toQ_of, toQ_of]
  rfl
theorem sub_ex {r : Rat} {y : RF} (hr : longQ r = false) (h : ((subF (rfOf r) y).2 == 0) = true) : ∃ s, y = rfOf s ∧ longQ s = false ∧ longQ (r - s) = false ∧ subF (rfOf r) y = (rfOf (r - s), 0) := by
  cases hy : okX y with
  | false => unfold subF doF at h; rw [hy, Bool.and_false] at h; simp at h
  | true =>
    obtain ⟨s, rfl, hs⟩ := ok_rf hy
    rw [sub_of hr hs] at h ⊢
    cases hl : longQ (r - s) with
    | true => unfold ansF at h; rw [hl] at h; simp at h
    | false => exact ⟨s, rfl, hs, hl, ansF_ok (longQ_false.1 hl)⟩
theorem zero_f : rfOf (Rat.divInt 0 1) = rfOf 0 := rfl
theorem lens_m {x : RF} {c : Rat} (h : x = rfOf c) : (⟨rfOf (Rat.divInt 1 1), rfOf (Rat.divInt 0 1), x, rfOf (Rat.divInt 1 1)⟩ : RM) = rmOf ⟨1, 0, c, 1⟩ := by
  subst h
  rw [zero_f, one_f]
  rfl
theorem space_m {x : RF} {c : Rat} (h : x = rfOf c) : (⟨rfOf (Rat.divInt 1 1), x, rfOf (Rat.divInt 0 1), rfOf (Rat.divInt 1 1)⟩ : RM) = rmOf ⟨1, c, 0, 1⟩ := by
  subst h
  rw [zero_f, one_f]
  rfl
theorem long_zero : longQ 0 = false := small_long (by decide)
theorem long_neg {x : Rat} : longQ (0 - x) = longQ x := by
  have h : ∀ y : Rat, longQ y = false → longQ (0 - y) = false := fun y hy => by
    have h1 := longQ_false.1 hy
    have e : 0 - y = -y := by grind
    rw [e]
    refine longQ_false.2 ⟨?_, ?_⟩
    · rw [Rat.neg_num]; unfold lz at *; rw [Int.natAbs_neg]; exact h1.1
    · rw [Rat.neg_den]; exact h1.2
  cases hx : longQ x with
  | false => exact h x hx
  | true =>
    cases hn : longQ (0 - x) with
    | true => rfl
    | false =>
      have h2 := h _ hn
      have e : 0 - (0 - x) = x := by grind
      rw [e, hx] at h2
      exact h2.symm
/-! the algebra of a lens, of a space -/
theorem lens_alg {pr pi qr qi N M c : Rat} (hN : N = pr * pr + pi * pi) (hM : M = qr * qr + qi * qi) (hN0 : N ≠ 0) (hM0 : M ≠ 0) (h : pi / N = qi / M) (hc : c = pr / N - qr / M) :
    ((1 * pr + 0) * ((0 - c) * pr + 1) + (1 * pi) * ((0 - c) * pi)) / (((0 - c) * pr + 1) * ((0 - c) * pr + 1) + ((0 - c) * pi) * ((0 - c) * pi)) = qr ∧
    pi / (((0 - c) * pr + 1) * ((0 - c) * pr + 1) + ((0 - c) * pi) * ((0 - c) * pi)) = qi := by
  have e1 : pr = pr / N * N := (Rat.div_mul_cancel hN0).symm
  have e2 : pi = pi / N * N := (Rat.div_mul_cancel hN0).symm
  have e3 : qr = qr / M * M := (Rat.div_mul_cancel hM0).symm
  have e4 : qi = pi / N * M := by rw [h]; exact (Rat.div_mul_cancel hM0).symm
  generalize pr / N = s at *
  generalize qr / M = t at *
  generalize pi / N = k at *
  subst hc e1 e2 e3 e4
  have f1 : N * (s * s + k * k) = 1 := by grind
  have f2 : M * (t * t + k * k) = 1 := by grind
  have d : ((0 - (s - t)) * (s * N) + 1) * ((0 - (s - t)) * (s * N) + 1) + ((0 - (s - t)) * (k * N)) * ((0 - (s - t)) * (k * N)) = N / M := by grind
  rw [d]
  grind
theorem made_alg {pr pi N D r : Rat} (hN : N = pr * pr + pi * pi) (hD : D = ((0 - r) * pr + 1) * ((0 - r) * pr + 1) + ((0 - r) * pi) * ((0 - r) * pi)) (hN0 : N ≠ 0) (hD0 : D ≠ 0) :
    ((1 * pr + 0) * ((0 - r) * pr + 1) + (1 * pi) * ((0 - r) * pi)) / D * (((1 * pr + 0) * ((0 - r) * pr + 1) + (1 * pi) * ((0 - r) * pi)) / D) + pi / D * (pi / D) = N / D ∧
    pi / D / (N / D) = pi / N ∧ pr / N - ((1 * pr + 0) * ((0 - r) * pr + 1) + (1 * pi) * ((0 - r) * pi)) / D / (N / D) = r := by
  refine ⟨?_, ?_, ?_⟩
  · grind
  · grind
  · grind

end Go.Proofs.Ytljkepdpoelpkaa
