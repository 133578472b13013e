import Derived.Test.YtljkepdpoelpkaaLeafV
namespace Go.Proofs.Ytljkepdpoelpkaa
open Go Go.RowKit
namespace LeafW

end LeafW
open LeafW
/-! small numbers; beams that may be -/
theorem small_long {r : Rat} (h : r.num.natAbs < 4294967296 ∧ r.den < 4294967296) : longQ r = false :=
  longQ_of (k := 1) ⟨lz_le (by omega), lz_le (by omega)⟩ (by decide)
theorem sgn_le {x : Rat} : x.num.sign ≤ 0 ↔ ¬ 0 < x := by
  constructor
  · intro h hx
    have : 0 < x.num := by
      rcases Rat.lt_iff_le_and_ne.1 hx with ⟨h1, h2⟩
      have h3 := Rat.num_nonneg.2 h1
      have h4 : x.num ≠ 0 := fun e => h2 (Rat.num_eq_zero.1 e).symm
      omega
    have := Int.sign_pos_iff.2 this
    omega
  · intro h
    have : x.num ≤ 0 := by
      apply Decidable.byContradiction
      intro hn
      have h1 : 0 ≤ x := Rat.num_nonneg.1 (by omega)
      exact h (Rat.lt_iff_le_and_ne.2 ⟨h1, fun e => by rw [← e] at hn; exact hn (by decide)⟩)
    by_cases h0 : x.num = 0
    · rw [h0]; decide
    · rw [Int.sign_eq_neg_one_of_neg (by omega)]; decide
/-- a beam that may be, as numbers. -/
theorem ansF_2 (q : Rat) : ((ansF q).2 == 1 || (ansF q).2 == 4) = true ∨ ((ansF q).2 = 0 ∧ (ansF q).1 = rfOf q ∧ longQ q = false) := by
  unfold ansF
  cases h : longQ q with
  | true => exact .inl rfl
  | false => exact .inr ⟨rfl, rfl, rfl⟩
theorem cmF_of {a b : Rat} (ha : longQ a = false) (hb : longQ b = false) : cmF (rfOf a) (rfOf b) = cmQ a b := by
  rw [cmF, okX_of, okX_of, ha, hb, toQ_of, toQ_of]; rfl
theorem sgF_of {a : Rat} (ha : longQ a = false) : sgF (rfOf a) = a.num.sign := by rw [sgF, okX_of, ha, toQ_of]; rfl
theorem one_f : rfOf (Rat.divInt 1 1) = rfOf 1 := rfl
theorem long_one : longQ 1 = false := small_long (by decide)
theorem rf_dec {a b : Rat} : decide (rfOf a = rfOf b) = decide (a = b) := decide_eq_decide.2 ⟨rfOf_inj, fun h => by rw [h]⟩

end Go.Proofs.Ytljkepdpoelpkaa
